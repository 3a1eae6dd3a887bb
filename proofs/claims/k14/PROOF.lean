import PyProof.Rows.All
import Wide.All
import OpenK.AllK
import Wide.FinOn
import PyProof.EqLayable
import HandS.ForMost
import HandS.Walk
import HandS.Zip
import HandS.IsInst
import HandS.TupAny
import HandS.Set
import HandS.SetFor
import HandS.Strs
import KE.KDictZip
import KE.KDictItemsList
import HandS.ListItems
import PySem.Challenge.RW_castwright_k14_whole_an_order
set_option Elab.async false
set_option maxRecDepth 100000
set_option maxHeartbeats 4000000
set_option linter.all false
/-! Kinds in plain Lean, and the laws about them: no program here. -/
namespace CW
open PySem
/-- the names that the law draws -/
def nms : List Str := ["a", "b", "cc"]
/-- a kind -/
inductive Kd where
  | any | num | truth
  | to (a b : Kd)
  | box (a : Kd)
  | row (fs : List (Str × Bool × Kd)) (op : Bool)
/-- a field: its name, whether it must be, its kind -/
abbrev Fd := Str × Bool × Kd
/-- the entry of a name in a row -/
inductive En where
  | free | none
  | some (m : Bool) (k : Kd)
def entry : List Fd → Bool → Str → En
  | [], op, _ => if op then .free else .none
  | f :: fs, op, x => if f.1 = x then .some f.2.1 f.2.2 else entry fs op x
def names (fs : List Fd) : List Str := fs.map fun f => f.1
def headS : Kd → Str
  | .any => "any" | .num => "num" | .truth => "truth" | .to _ _ => "to" | .box _ => "box" | .row _ _ => "row"
/-- the kinds straight within, with their steps -/
def subs : Kd → List (Str × Kd)
  | .to a b => [("in", a), ("out", b)]
  | .box a => [("inside", a)]
  | .row fs _ => fs.map fun f => (f.1, f.2.2)
  | _ => []
def markS : Bool → Str
  | true => "must"
  | false => "may"
def leE (le : Kd → Kd → Bool) : En → En → Bool
  | .free, _ => true
  | .none, .none => true
  | .some m k, .some m' k' => m == m' && le k k'
  | _, _ => false
/-- no more known than, n deep -/
def lek : Nat → Kd → Kd → Bool
  | 0, _, _ => false
  | n + 1, a, b => match a, b with
    | .any, _ => true
    | .num, .num => true
    | .truth, .truth => true
    | .to a b, .to c d => lek n a c && lek n b d
    | .box a, .box b => lek n a b
    | .row fs o, .row gs p => !(p && !o) && (names fs ++ names gs).all fun x => leE (lek n) (entry fs o x) (entry gs p x)
    | _, _ => false
/-- a kind as the law draws it, at most n within one another -/
def Wf : Nat → Kd → Prop
  | 0, _ => False
  | n + 1, k => match k with
    | .to a b => Wf n a ∧ Wf n b
    | .box a => Wf n a
    | .row fs _ => (names fs).Sublist nms ∧ ∀ f ∈ fs, Wf n f.2.2
    | _ => True
def sz : Nat → Kd → Nat
  | 0, _ => 0
  | n + 1, k => 1 + ((subs k).map fun p => sz n p.2).sum
def known : Nat → Kd → Bool
  | 0, _ => false
  | n + 1, k => match k with
    | .any => false
    | .row fs op => !op && fs.all fun f => known n f.2.2
    | .to a b => known n a && known n b
    | .box a => known n a
    | _ => true
theorem nms_nodup : nms.Nodup := by decide +kernel
theorem sub_nodup {fs : List Fd} (h : (names fs).Sublist nms) : (names fs).Nodup := h.nodup nms_nodup
/-! ### entries -/
theorem entry_out {x : Str} {op : Bool} : ∀ {fs : List Fd}, x ∉ names fs → entry fs op x = if op then .free else .none
  | [], _ => rfl
  | f :: fs, h => by
    have h1 : f.1 ≠ x := fun e => h (by rw [← e]; exact List.mem_cons_self)
    have h2 : x ∉ names fs := fun e => h (List.mem_cons_of_mem _ e)
    show (if f.1 = x then _ else entry fs op x) = _
    rw [if_neg h1]
    exact entry_out h2
theorem entry_in {x : Str} {m : Bool} {k : Kd} {op : Bool} : ∀ {fs : List Fd}, (names fs).Nodup → (x, m, k) ∈ fs → entry fs op x = .some m k
  | [], _, h => by cases h
  | f :: fs, hn, h => by
    have hn' := List.nodup_cons.mp hn
    show (if f.1 = x then _ else entry fs op x) = _
    rcases List.mem_cons.mp h with e | e
    · rw [← e, if_pos rfl]
    · have h1 : f.1 ≠ x := fun z => hn'.1 (List.mem_map.mpr ⟨_, e, z.symm⟩)
      rw [if_neg h1]
      exact entry_in hn'.2 e
theorem mem_entry {x : Str} {m : Bool} {k : Kd} {op : Bool} : ∀ {fs : List Fd}, entry fs op x = .some m k → (x, m, k) ∈ fs
  | [], h => by
    have h : (if op then En.free else En.none) = .some m k := h
    cases op <;> cases h
  | f :: fs, h => by
    have h : (if f.1 = x then En.some f.2.1 f.2.2 else entry fs op x) = .some m k := h
    by_cases e : f.1 = x
    · rw [if_pos e] at h
      cases h
      rw [← e]
      exact List.mem_cons_self
    · rw [if_neg e] at h
      exact List.mem_cons_of_mem _ (mem_entry h)
theorem name_entry {x : Str} {op : Bool} {fs : List Fd} (hn : (names fs).Nodup) (h : x ∈ names fs) : ∃ m k, (x, m, k) ∈ fs ∧ entry fs op x = .some m k := by
  obtain ⟨f, hf, e⟩ := List.mem_map.mp h
  obtain ⟨n, m, k⟩ := f
  have e : n = x := e
  subst e
  exact ⟨m, k, hf, entry_in hn hf⟩
theorem entry_told {x : Str} {op : Bool} : ∀ {fs : List Fd}, x ∈ names fs → entry fs op x ≠ .none
  | [], h => by cases h
  | f :: fs, h => by
    show (if f.1 = x then En.some f.2.1 f.2.2 else entry fs op x) ≠ .none
    by_cases e : f.1 = x
    · rw [if_pos e]
      intro z
      cases z
    · rw [if_neg e]
      rcases List.mem_cons.mp h with z | z
      · exact absurd z.symm e
      · exact entry_told z
theorem entry_some_name {x : Str} {op : Bool} {fs : List Fd} {m : Bool} {k : Kd} (h : entry fs op x = .some m k) : x ∈ names fs := List.mem_map.mpr ⟨_, mem_entry h, rfl⟩
/-- two lists of names, each a part of one list without twins, with the same members are one -/
theorem sub_ext {α : Type} : ∀ {l : List α}, l.Nodup → ∀ {a b : List α}, a.Sublist l → b.Sublist l → (∀ x, x ∈ a ↔ x ∈ b) → a = b
  | [], _, a, b, ha, hb, _ => by rw [List.sublist_nil.mp ha, List.sublist_nil.mp hb]
  | y :: l, hn, a, b, ha, hb, h => by
    have hn' := List.nodup_cons.mp hn
    cases ha with
    | cons _ ha =>
      cases hb with
      | cons _ hb => exact sub_ext hn'.2 ha hb h
      | cons_cons _ hb => exact absurd (ha.subset ((h y).mpr List.mem_cons_self)) hn'.1
    | cons_cons _ ha =>
      cases hb with
      | cons _ hb => exact absurd (hb.subset ((h y).mp List.mem_cons_self)) hn'.1
      | cons_cons _ hb =>
        rename_i a' b'
        have q : a' = b' := sub_ext hn'.2 ha hb fun x => by
          constructor
          · intro hx
            rcases List.mem_cons.mp ((h x).mp (List.mem_cons_of_mem _ hx)) with e | e
            · exact absurd (ha.subset (e ▸ hx)) hn'.1
            · exact e
          · intro hx
            rcases List.mem_cons.mp ((h x).mpr (List.mem_cons_of_mem _ hx)) with e | e
            · exact absurd (hb.subset (e ▸ hx)) hn'.1
            · exact e
        rw [q]
theorem fields_ext : ∀ {fs gs : List Fd}, names fs = names gs → (names fs).Nodup → (∀ x m k, (x, m, k) ∈ fs → (x, m, k) ∈ gs) → fs = gs
  | [], [], _, _, _ => rfl
  | [], _ :: _, h, _, _ => by cases h
  | _ :: _, [], h, _, _ => by cases h
  | f :: fs, g :: gs, h, hn, hm => by
    have e1 : f.1 = g.1 := (List.cons.inj h).1
    have e2 : names fs = names gs := (List.cons.inj h).2
    have hn' := List.nodup_cons.mp hn
    have hf : f = g := by
      rcases List.mem_cons.mp (hm f.1 f.2.1 f.2.2 List.mem_cons_self) with e | e
      · exact e
      · have q : f.1 ∈ names gs := List.mem_map.mpr ⟨_, e, rfl⟩
        rw [← e2] at q
        exact absurd q hn'.1
    subst hf
    rw [fields_ext e2 hn'.2 fun x m k hx => ?_]
    rcases List.mem_cons.mp (hm x m k (List.mem_cons_of_mem _ hx)) with e | e
    · refine absurd ?_ hn'.1
      rw [← e]
      exact List.mem_map.mpr ⟨_, hx, rfl⟩
    · exact e
theorem rows_ext {fs gs : List Fd} {o : Bool} (hf : (names fs).Sublist nms) (hg : (names gs).Sublist nms) (h : ∀ x, entry fs o x = entry gs o x) : fs = gs := by
  have nf := sub_nodup hf
  have ng := sub_nodup hg
  have mem : ∀ x m k, (x, m, k) ∈ fs → (x, m, k) ∈ gs := fun x m k hx => mem_entry (op := o) ((h x).symm.trans (entry_in nf hx))
  refine fields_ext (sub_ext nms_nodup hf hg fun x => ⟨fun hx => ?_, fun hx => ?_⟩) nf mem
  · obtain ⟨m, k, h1, _⟩ := name_entry (op := o) nf hx
    exact List.mem_map.mpr ⟨_, mem x m k h1, rfl⟩
  · obtain ⟨m, k, _, h2⟩ := name_entry (op := o) ng hx
    exact entry_some_name ((h x).trans h2)
/-! ### no more known than -/
theorem lek_any (n : Nat) (b : Kd) : lek (n + 1) .any b = true := by unfold lek; rfl
theorem lek_num {n : Nat} {b : Kd} (h : lek (n + 1) .num b = true) : b = .num := by
  cases b <;> first | rfl | (exact absurd (show false = true from h) (by decide))
theorem lek_truth {n : Nat} {b : Kd} (h : lek (n + 1) .truth b = true) : b = .truth := by
  cases b <;> first | rfl | (exact absurd (show false = true from h) (by decide))
theorem lek_to {n : Nat} {x y b : Kd} (h : lek (n + 1) (.to x y) b = true) : ∃ x' y', b = .to x' y' ∧ lek n x x' = true ∧ lek n y y' = true := by
  cases b with
  | to x' y' =>
    have h : (lek n x x' && lek n y y') = true := h
    rw [Bool.and_eq_true] at h
    exact ⟨x', y', rfl, h⟩
  | _ => exact absurd (show false = true from h) (by decide)
theorem lek_box {n : Nat} {x b : Kd} (h : lek (n + 1) (.box x) b = true) : ∃ x', b = .box x' ∧ lek n x x' = true := by
  cases b with
  | box x' => exact ⟨x', rfl, h⟩
  | _ => exact absurd (show false = true from h) (by decide)
theorem lek_rowE {n : Nat} {fs : List Fd} {o : Bool} {b : Kd} (h : lek (n + 1) (.row fs o) b = true) : ∃ gs p, b = .row gs p := by
  cases b with
  | row gs p => exact ⟨gs, p, rfl⟩
  | _ => exact absurd (show false = true from h) (by decide)
theorem lek_anyR {n : Nat} {a : Kd} (h : lek (n + 1) a .any = true) : a = .any := by
  cases a <;> first | rfl | (exact absurd (show false = true from h) (by decide))
theorem lek_to2 {n : Nat} {x y x' y' : Kd} (h1 : lek n x x' = true) (h2 : lek n y y' = true) : lek (n + 1) (.to x y) (.to x' y') = true := by
  show (lek n x x' && lek n y y') = true
  rw [Bool.and_eq_true]
  exact ⟨h1, h2⟩
theorem lek_box2 {n : Nat} {x x' : Kd} (h1 : lek n x x' = true) : lek (n + 1) (.box x) (.box x') = true := h1
theorem leE_iff_some {le : Kd → Kd → Bool} {m : Bool} {k : Kd} {e : En} (h : leE le (.some m k) e = true) : ∃ k', e = .some m k' ∧ le k k' = true := by
  cases e with
  | free => cases h
  | none => cases h
  | some m' k' =>
    have q : (m == m' && le k k') = true := h
    rw [Bool.and_eq_true, beq_iff_eq] at q
    obtain ⟨e, q⟩ := q
    rw [e]
    exact ⟨k', rfl, q⟩
theorem leE_iff_none {le : Kd → Kd → Bool} {e : En} (h : leE le .none e = true) : e = .none := by
  cases e with
  | free => cases h
  | none => rfl
  | some m k => cases h
theorem lek_row {n : Nat} {fs gs : List Fd} {o p : Bool} : lek (n + 1) (.row fs o) (.row gs p) = true ↔ (p = true → o = true) ∧ ∀ x, leE (lek n) (entry fs o x) (entry gs p x) = true := by
  have e : lek (n + 1) (.row fs o) (.row gs p) = (!(p && !o) && (names fs ++ names gs).all fun x => leE (lek n) (entry fs o x) (entry gs p x)) := by
    conv => lhs; unfold lek
  rw [e, Bool.and_eq_true, List.all_eq_true]
  have po : (!(p && !o)) = true ↔ (p = true → o = true) := by cases p <;> cases o <;> simp
  rw [po]
  refine and_congr_right fun hpo => ⟨fun h x => ?_, fun h x _ => h x⟩
  by_cases hx : x ∈ names fs ++ names gs
  · exact h x hx
  · rw [List.mem_append, not_or] at hx
    rw [entry_out hx.1, entry_out hx.2]
    cases o with
    | true => rfl
    | false =>
      cases p with
      | true => cases hpo rfl
      | false => rfl
theorem leE_trans {le : Kd → Kd → Bool} (t : ∀ a b c, le a b = true → le b c = true → le a c = true) {d e f : En} (h1 : leE le d e = true) (h2 : leE le e f = true) : leE le d f = true := by
  cases d with
  | free => rfl
  | none =>
    rw [leE_iff_none h1] at h2
    exact h2
  | some m k =>
    obtain ⟨k', rfl, q1⟩ := leE_iff_some h1
    obtain ⟨k'', rfl, q2⟩ := leE_iff_some h2
    show (m == m && le k k'') = true
    rw [Bool.and_eq_true]
    exact ⟨beq_self_eq_true m, t _ _ _ q1 q2⟩
theorem lek_trans : ∀ (n : Nat) (a b c : Kd), lek n a b = true → lek n b c = true → lek n a c = true
  | 0, _, _, _, h, _ => by cases h
  | n + 1, a, b, c, h1, h2 => by
    have ih := lek_trans n
    cases a with
    | any => exact lek_any n c
    | num =>
      rw [lek_num h1] at h2
      exact h2
    | truth =>
      rw [lek_truth h1] at h2
      exact h2
    | to x y =>
      obtain ⟨x', y', rfl, p1, p2⟩ := lek_to h1
      obtain ⟨x'', y'', rfl, q1, q2⟩ := lek_to h2
      exact lek_to2 (ih _ _ _ p1 q1) (ih _ _ _ p2 q2)
    | box x =>
      obtain ⟨x', rfl, p1⟩ := lek_box h1
      obtain ⟨x'', rfl, q1⟩ := lek_box h2
      exact ih _ _ _ p1 q1
    | row fs o =>
      obtain ⟨gs, p, rfl⟩ := lek_rowE h1
      obtain ⟨hs, q, rfl⟩ := lek_rowE h2
      rw [lek_row] at h1 h2 ⊢
      exact ⟨fun z => h1.1 (h2.1 z), fun x => leE_trans ih (h1.2 x) (h2.2 x)⟩
theorem lek_refl : ∀ (n : Nat) (a : Kd), Wf n a → lek n a a = true
  | 0, _, h => h.elim
  | n + 1, a, h => by
    have ih := lek_refl n
    cases a with
    | any => rfl
    | num => rfl
    | truth => rfl
    | to x y =>
      have h : Wf n x ∧ Wf n y := h
      show (lek n x x && lek n y y) = true
      rw [Bool.and_eq_true]
      exact ⟨ih _ h.1, ih _ h.2⟩
    | box x => exact ih x h
    | row fs o =>
      have h : (names fs).Sublist nms ∧ ∀ f ∈ fs, Wf n f.2.2 := h
      rw [lek_row]
      refine ⟨id, fun x => ?_⟩
      cases e : entry fs o x with
      | free => rfl
      | none => rfl
      | some m k =>
        show (m == m && lek n k k) = true
        rw [Bool.and_eq_true]
        exact ⟨beq_self_eq_true m, ih k (h.2 _ (mem_entry e))⟩
theorem lek_anti : ∀ (n : Nat) (a b : Kd), Wf n a → Wf n b → lek n a b = true → lek n b a = true → a = b
  | 0, _, _, h, _, _, _ => h.elim
  | n + 1, a, b, ha, hb, h1, h2 => by
    have ih := lek_anti n
    cases a with
    | any => exact (lek_anyR h2).symm
    | num => exact (lek_num h1).symm
    | truth => exact (lek_truth h1).symm
    | to x y =>
      obtain ⟨x', y', rfl, p1, p2⟩ := lek_to h1
      obtain ⟨x'', y'', e, q1, q2⟩ := lek_to h2
      cases e
      have ha : Wf n x ∧ Wf n y := ha
      have hb : Wf n x' ∧ Wf n y' := hb
      rw [ih _ _ ha.1 hb.1 p1 q1, ih _ _ ha.2 hb.2 p2 q2]
    | box x =>
      obtain ⟨x', rfl, p1⟩ := lek_box h1
      rw [ih x x' ha hb p1 h2]
    | row fs o =>
      obtain ⟨gs, p, rfl⟩ := lek_rowE h1
      rw [lek_row] at h1 h2
      have ha : (names fs).Sublist nms ∧ ∀ f ∈ fs, Wf n f.2.2 := ha
      have hb : (names gs).Sublist nms ∧ ∀ f ∈ gs, Wf n f.2.2 := hb
      have eo : o = p := by
        cases o <;> cases p
        · rfl
        · exact (h1.1 rfl)
        · exact (h2.1 rfl).symm
        · rfl
      subst eo
      have key : ∀ x, entry fs o x = entry gs o x := fun x => by
        have q1 := h1.2 x
        have q2 := h2.2 x
        cases e1 : entry fs o x with
        | free =>
          rw [e1] at q2
          cases e2 : entry gs o x with
          | free => rfl
          | none => rw [e2] at q2; cases (leE_iff_none q2)
          | some m k =>
            rw [e2] at q2
            obtain ⟨_, e, _⟩ := leE_iff_some q2
            cases e
        | none =>
          rw [e1] at q1
          exact (leE_iff_none q1).symm
        | some m k =>
          rw [e1] at q1 q2
          obtain ⟨k', e2, l1⟩ := leE_iff_some q1
          rw [e2] at q2 ⊢
          obtain ⟨k'', e3, l2⟩ := leE_iff_some q2
          cases e3
          rw [ih k k' (ha.2 _ (mem_entry e1)) (hb.2 _ (mem_entry e2)) l1 l2]
      rw [rows_ext ha.1 hb.1 key]
theorem known_top : ∀ (n : Nat) (a b : Kd), Wf n a → Wf n b → known n a = true → lek n a b = true → a = b
  | 0, _, _, h, _, _, _ => h.elim
  | n + 1, a, b, ha, hb, hk, h1 => by
    have ih := known_top n
    cases a with
    | any => exact absurd (show false = true from hk) (by decide)
    | num => exact (lek_num h1).symm
    | truth => exact (lek_truth h1).symm
    | to x y =>
      obtain ⟨x', y', rfl, p1, p2⟩ := lek_to h1
      have hk : (known n x && known n y) = true := hk
      have ha : Wf n x ∧ Wf n y := ha
      have hb : Wf n x' ∧ Wf n y' := hb
      rw [Bool.and_eq_true] at hk
      rw [ih _ _ ha.1 hb.1 hk.1 p1, ih _ _ ha.2 hb.2 hk.2 p2]
    | box x =>
      obtain ⟨x', rfl, p1⟩ := lek_box h1
      rw [ih x x' ha hb hk p1]
    | row fs o =>
      obtain ⟨gs, p, rfl⟩ := lek_rowE h1
      rw [lek_row] at h1
      have ha : (names fs).Sublist nms ∧ ∀ f ∈ fs, Wf n f.2.2 := ha
      have hb : (names gs).Sublist nms ∧ ∀ f ∈ gs, Wf n f.2.2 := hb
      have hk : (!o && fs.all fun f => known n f.2.2) = true := hk
      rw [Bool.and_eq_true, List.all_eq_true] at hk
      have eo : o = false := by
        cases o with
        | false => rfl
        | true => exact absurd hk.1 (by decide)
      subst eo
      have ep : p = false := by
        cases p with
        | false => rfl
        | true => exact (h1.1 rfl).symm
      subst ep
      have key : ∀ x, entry fs false x = entry gs false x := fun x => by
        have q1 := h1.2 x
        cases e1 : entry fs false x with
        | free =>
          by_cases hx : x ∈ names fs
          · obtain ⟨m, k, _, e⟩ := name_entry (op := false) (sub_nodup ha.1) hx
            rw [e] at e1
            cases e1
          · rw [entry_out hx] at e1
            rw [if_neg Bool.false_ne_true] at e1
            cases e1
        | none =>
          rw [e1] at q1
          exact (leE_iff_none q1).symm
        | some m k =>
          rw [e1] at q1
          obtain ⟨k', e2, l1⟩ := leE_iff_some q1
          rw [e2, ih k k' (ha.2 _ (mem_entry e1)) (hb.2 _ (mem_entry e2)) (hk.2 _ (mem_entry e1)) l1]
      rw [rows_ext ha.1 hb.1 key]
/-- forgetting, field by field: each field that is left is one of the old ones, no more known; in a row that stays closed none is gone -/
theorem lek_forgot {n : Nat} {fs gs : List Fd} {o p : Bool} (hg : (names gs).Sublist nms) (hp : p = true → o = true) (h1 : ∀ x m k, (x, m, k) ∈ fs → ∃ k', (x, m, k') ∈ gs ∧ lek n k k' = true) (h2 : o = false → names fs = names gs) :
    lek (n + 1) (.row fs o) (.row gs p) = true := by
  rw [lek_row]
  refine ⟨hp, fun x => ?_⟩
  cases e : entry fs o x with
  | free => rfl
  | none =>
    have hxf : x ∉ names fs := fun hx => entry_told hx e
    have eo : o = false := by
      rw [entry_out hxf] at e
      cases o with
      | false => rfl
      | true => cases e
    subst eo
    have ep : p = false := by
      cases p with
      | false => rfl
      | true => exact (hp rfl).symm
    subst ep
    have hx : x ∉ names gs := by
      rw [← h2 rfl]
      exact hxf
    rw [entry_out hx]
    rfl
  | some m k =>
    obtain ⟨k', hm, l⟩ := h1 x m k (mem_entry e)
    rw [entry_in (sub_nodup hg) hm]
    show (m == m && lek n k k') = true
    rw [Bool.and_eq_true]
    exact ⟨beq_self_eq_true m, l⟩
/-! ### how many kinds there are -/
def most : Nat → Nat
  | 0 => 0
  | n + 1 => 1 + 3 * most n
theorem sum_most {α : Type} (f : α → Nat) (b : Nat) : ∀ l : List α, (∀ x ∈ l, f x ≤ b) → (l.map f).sum ≤ l.length * b
  | [], _ => by simp
  | x :: l, h => by
    have ih := sum_most f b l fun y hy => h y (List.mem_cons_of_mem _ hy)
    have hx := h x List.mem_cons_self
    rw [List.map_cons, List.sum_cons, List.length_cons, Nat.succ_mul]
    omega
theorem fields_few {fs : List Fd} (h : (names fs).Sublist nms) : fs.length ≤ 3 := by
  have q := h.length_le
  unfold names at q
  rw [List.length_map] at q
  exact q
theorem subs_few {n : Nat} {k : Kd} (h : Wf (n + 1) k) : (subs k).length ≤ 3 := by
  cases k with
  | row fs o =>
    have h : (names fs).Sublist nms ∧ ∀ f ∈ fs, Wf n f.2.2 := h
    show (fs.map _).length ≤ 3
    rw [List.length_map]
    exact fields_few h.1
  | any => exact Nat.zero_le 3
  | num => exact Nat.zero_le 3
  | truth => exact Nat.zero_le 3
  | to x y => exact (by decide : 2 ≤ 3)
  | box x => exact (by decide : 1 ≤ 3)
theorem subs_wf {n : Nat} {k : Kd} (h : Wf (n + 1) k) : ∀ p ∈ subs k, Wf n p.2 := by
  intro p hp
  cases k with
  | row fs o =>
    have h : (names fs).Sublist nms ∧ ∀ f ∈ fs, Wf n f.2.2 := h
    obtain ⟨f, hf, e⟩ := List.mem_map.mp hp
    rw [← e]
    exact h.2 f hf
  | any => cases hp
  | num => cases hp
  | truth => cases hp
  | to x y =>
    have h : Wf n x ∧ Wf n y := h
    rcases List.mem_cons.mp hp with e | hp
    · rw [e]; exact h.1
    · rw [List.mem_singleton.mp hp]; exact h.2
  | box x =>
    rw [List.mem_singleton.mp hp]
    exact h
theorem sz_most : ∀ (n : Nat) (k : Kd), Wf n k → sz n k ≤ most n
  | 0, _, h => h.elim
  | n + 1, k, h => by
    have ih := sz_most n
    have q := sum_most (fun p : Str × Kd => sz n p.2) (most n) (subs k) fun p hp => ih p.2 (subs_wf h p hp)
    have l := subs_few h
    have z : (subs k).length * most n ≤ 3 * most n := Nat.mul_le_mul_right _ l
    show 1 + ((subs k).map fun p => sz n p.2).sum ≤ 1 + 3 * most n
    omega
theorem wf_step : ∀ (n : Nat) (k : Kd), Wf n k → Wf (n + 1) k
  | 0, _, h => h.elim
  | n + 1, k, h => by
    have ih := wf_step n
    cases k with
    | row fs o =>
      have h : (names fs).Sublist nms ∧ ∀ f ∈ fs, Wf n f.2.2 := h
      exact ⟨h.1, fun f hf => ih _ (h.2 f hf)⟩
    | any => trivial
    | num => trivial
    | truth => trivial
    | to x y =>
      have h : Wf n x ∧ Wf n y := h
      exact ⟨ih _ h.1, ih _ h.2⟩
    | box x => exact ih _ h
theorem wf_mono {m n : Nat} {k : Kd} (h : Wf m k) (hl : m ≤ n) : Wf n k := by
  induction hl with
  | refl => exact h
  | step _ ih => exact wf_step _ _ ih
/-! ### kinds as the data of the program -/
mutual
def enc : Kd → PyData
  | .any => .tuple [.str "any"]
  | .num => .tuple [.str "num"]
  | .truth => .tuple [.str "truth"]
  | .to a b => .tuple [.str "to", enc a, enc b]
  | .box a => .tuple [.str "box", enc a]
  | .row fs op => .tuple [.str "row", .tuple (encs fs), .bool op]
def encs : List (Str × Bool × Kd) → List PyData
  | [] => []
  | (n, m, k) :: fs => .tuple [.str n, .str (markS m), enc k] :: encs fs
end
def encE : En → PyData
  | .free => .tuple [.str "free"]
  | .none => .tuple [.str "none"]
  | .some m k => .tuple [.str (markS m), enc k]

/-! ### the program's own forms -/
def isOpen : Kd → Bool
  | .row _ op => op
  | _ => false
def isAny : Kd → Bool
  | .any => true
  | _ => false
def isRow : Kd → Bool
  | .row _ _ => true
  | _ => false
theorem known_eq (n : Nat) (k : Kd) : known (n + 1) k = if (isAny k || isOpen k) = true then false else (subs k).all fun p => known n p.2 := by
  cases k with
  | any => rfl
  | num => rfl
  | truth => rfl
  | to x y =>
    show (known n x && known n y) = (known n x && (known n y && true))
    rw [Bool.and_true]
  | box x =>
    show known n x = (known n x && true)
    rw [Bool.and_true]
  | row fs o =>
    show (!o && fs.all fun f => known n f.2.2) = if (false || o) = true then false else (fs.map fun f => (f.1, f.2.2)).all fun p => known n p.2
    rw [List.all_map]
    cases o <;> rfl
def tag : Kd → Fin 6
  | .any => 0 | .num => 1 | .truth => 2 | .to _ _ => 3 | .box _ => 4 | .row _ _ => 5
def tagS (i : Fin 6) : Str := (["any", "num", "truth", "to", "box", "row"] : List Str).getD i.val "any"
theorem tagS_inj : ∀ i j : Fin 6, tagS i = tagS j → i = j := by decide +kernel
theorem headS_tag (k : Kd) : headS k = tagS (tag k) := by cases k <;> rfl
theorem head_tag {a b : Kd} (h : headS a = headS b) : tag a = tag b := tagS_inj _ _ (by rw [← headS_tag, ← headS_tag]; exact h)
theorem head_is {k : Kd} (i : Fin 6) (h : headS k = tagS i) : tag k = i := tagS_inj _ _ (by rw [← headS_tag]; exact h)
theorem lek_head {n : Nat} {a b : Kd} (h0 : isAny a = false) (h : headS a ≠ headS b) : lek (n + 1) a b = false := by
  cases a <;> cases b <;> first | rfl | (exact absurd rfl h) | cases h0
theorem lek_subs {n : Nat} {a b : Kd} (h0 : isAny a = false) (h1 : isRow a = false) (h : headS a = headS b) : lek (n + 1) a b = ((subs a).zip (subs b)).all fun p => lek n p.1.2 p.2.2 := by
  have t := head_tag h
  cases a with
  | any => cases h0
  | row fs o => cases h1
  | num => cases b <;> first | rfl | (exact absurd t (by simp [tag]))
  | truth => cases b <;> first | rfl | (exact absurd t (by simp [tag]))
  | to x y =>
    cases b with
    | to x' y' =>
      show (lek n x x' && lek n y y') = (lek n x x' && (lek n y y' && true))
      rw [Bool.and_true]
    | _ => exact absurd t (by simp [tag])
  | box x =>
    cases b with
    | box x' =>
      show lek n x x' = (lek n x x' && true)
      rw [Bool.and_true]
    | _ => exact absurd t (by simp [tag])
theorem lek_rows {n : Nat} {fs gs : List Fd} {o p : Bool} {ns : List Str} (h : ∀ x, x ∈ ns ↔ x ∈ names fs ∨ x ∈ names gs) :
    lek (n + 1) (.row fs o) (.row gs p) = if (p && !o) = true then false else ns.all fun x => leE (lek n) (entry fs o x) (entry gs p x) := by
  have e : lek (n + 1) (.row fs o) (.row gs p) = (!(p && !o) && (names fs ++ names gs).all fun x => leE (lek n) (entry fs o x) (entry gs p x)) := by
    conv => lhs; unfold lek
  have q : (names fs ++ names gs).all (fun x => leE (lek n) (entry fs o x) (entry gs p x)) = ns.all fun x => leE (lek n) (entry fs o x) (entry gs p x) := by
    rw [Bool.eq_iff_iff, List.all_eq_true, List.all_eq_true]
    exact ⟨fun z x hx => z x (List.mem_append.mpr ((h x).mp hx)), fun z x hx => z x ((h x).mpr (List.mem_append.mp hx))⟩
  rw [e, q]
  cases p <;> cases o <;> rfl
theorem head_row {k : Kd} : headS k = "row" ↔ isRow k = true := by
  constructor
  · intro h
    have t := head_is 5 h
    cases k <;> first | rfl | (exact absurd t (by simp [tag]))
  · intro h
    cases k <;> first | rfl | cases h
theorem head_any {k : Kd} : headS k = "any" ↔ isAny k = true := by
  constructor
  · intro h
    have t := head_is 0 h
    cases k <;> first | rfl | (exact absurd t (by simp [tag]))
  · intro h
    cases k <;> first | rfl | cases h
/-! ### equality of the data -/
theorem markS_inj {a b : Bool} (h : markS a = markS b) : a = b := by
  cases a <;> cases b <;> first | rfl | (exact absurd h (by decide +kernel))
theorem eqv_one {x y : Str} {xs ys : List PyData} : PyData.eqv (.tuple (.str x :: xs)) (.tuple (.str y :: ys)) = (x == y && PyData.eqvAll xs ys) := by
  simp only [PyData.eqv, PyData.eqvAll]
theorem eqv_enc : ∀ (n : Nat) (a b : Kd), Wf n a → Wf n b → (PyData.eqv (enc a) (enc b) = true ↔ a = b)
  | 0, _, _, h, _ => h.elim
  | n + 1, a, b, ha, hb => by
    have ih := eqv_enc n
    have nohead : ∀ {x y : Str} {xs ys : List PyData}, x ≠ y → PyData.eqv (.tuple (.str x :: xs)) (.tuple (.str y :: ys)) ≠ true := fun {x y xs ys} h z => by
      rw [eqv_one, Bool.and_eq_true, beq_iff_eq] at z
      exact h z.1
    cases a with
    | any =>
      cases b with
      | any => exact ⟨fun _ => rfl, fun _ => by decide +kernel⟩
      | _ => exact ⟨fun h => absurd (by simpa only [enc] using h) (nohead (by decide +kernel)), fun h => by cases h⟩
    | num =>
      cases b with
      | num => exact ⟨fun _ => rfl, fun _ => by decide +kernel⟩
      | _ => exact ⟨fun h => absurd (by simpa only [enc] using h) (nohead (by decide +kernel)), fun h => by cases h⟩
    | truth =>
      cases b with
      | truth => exact ⟨fun _ => rfl, fun _ => by decide +kernel⟩
      | _ => exact ⟨fun h => absurd (by simpa only [enc] using h) (nohead (by decide +kernel)), fun h => by cases h⟩
    | to x y =>
      cases b with
      | to x' y' =>
        have ha : Wf n x ∧ Wf n y := ha
        have hb : Wf n x' ∧ Wf n y' := hb
        simp only [enc]
        rw [eqv_one]
        simp only [PyData.eqvAll, beq_self_eq_true, Bool.true_and, Bool.and_true, Bool.and_eq_true]
        rw [ih _ _ ha.1 hb.1, ih _ _ ha.2 hb.2]
        exact ⟨fun h => by rw [h.1, h.2], fun h => by cases h; exact ⟨rfl, rfl⟩⟩
      | _ => exact ⟨fun h => absurd (by simpa only [enc] using h) (nohead (by decide +kernel)), fun h => by cases h⟩
    | box x =>
      cases b with
      | box x' =>
        have ha : Wf n x := ha
        have hb : Wf n x' := hb
        simp only [enc]
        rw [eqv_one]
        simp only [PyData.eqvAll, beq_self_eq_true, Bool.true_and, Bool.and_true]
        rw [ih _ _ ha hb]
        exact ⟨fun h => by rw [h], fun h => by cases h; rfl⟩
      | _ => exact ⟨fun h => absurd (by simpa only [enc] using h) (nohead (by decide +kernel)), fun h => by cases h⟩
    | row fs o =>
      cases b with
      | row gs p =>
        have ha : (names fs).Sublist nms ∧ ∀ f ∈ fs, Wf n f.2.2 := ha
        have hb : (names gs).Sublist nms ∧ ∀ f ∈ gs, Wf n f.2.2 := hb
        have all : ∀ (fs gs : List Fd), (∀ f ∈ fs, Wf n f.2.2) → (∀ f ∈ gs, Wf n f.2.2) → (PyData.eqvAll (encs fs) (encs gs) = true ↔ fs = gs) := by
          intro fs
          induction fs with
          | nil =>
            intro gs _ _
            cases gs with
            | nil => simp only [encs, PyData.eqvAll]
            | cons g gs =>
              obtain ⟨x, m, k⟩ := g
              simp only [encs, PyData.eqvAll]
              exact ⟨fun h => absurd h (by decide), fun h => nomatch h⟩
          | cons f fs ihf =>
            intro gs hf hg
            obtain ⟨x, m, k⟩ := f
            cases gs with
            | nil =>
              simp only [encs, PyData.eqvAll]
              exact ⟨fun h => absurd h (by decide), fun h => nomatch h⟩
            | cons g gs =>
              obtain ⟨x', m', k'⟩ := g
              simp only [encs, PyData.eqvAll]
              rw [eqv_one]
              simp only [PyData.eqvAll, PyData.eqv, Bool.and_true, Bool.and_eq_true, beq_iff_eq]
              rw [ih k k' (hf _ List.mem_cons_self) (hg _ List.mem_cons_self), ihf gs (fun f h => hf f (List.mem_cons_of_mem _ h)) (fun f h => hg f (List.mem_cons_of_mem _ h))]
              constructor
              · rintro ⟨⟨h1, h2, h3⟩, h4⟩
                rw [h1, markS_inj h2, h3, h4]
              · intro h
                cases h
                exact ⟨⟨rfl, rfl, rfl⟩, rfl⟩
        simp only [enc]
        rw [eqv_one]
        simp only [PyData.eqvAll, PyData.eqv, beq_self_eq_true, Bool.true_and, Bool.and_true, Bool.and_eq_true, beq_iff_eq]
        rw [all fs gs ha.2 hb.2]
        exact ⟨fun h => by rw [h.1, h.2], fun h => by cases h; exact ⟨rfl, rfl⟩⟩
      | _ => exact ⟨fun h => absurd (by simpa only [enc] using h) (nohead (by decide +kernel)), fun h => by cases h⟩
theorem enc_any (k : Kd) : PyData.eqv (enc k) (enc .any) = isAny k := by
  have nohead : ∀ {x y : Str} {xs ys : List PyData}, x ≠ y → PyData.eqv (.tuple (.str x :: xs)) (.tuple (.str y :: ys)) = false := fun {x y xs ys} h => by
    rw [eqv_one, beq_eq_false_iff_ne.mpr h, Bool.false_and]
  cases k with
  | any => decide +kernel
  | _ =>
    simp only [enc]
    exact nohead (by decide +kernel)
def isFree : En → Bool
  | .free => true
  | _ => false
def isNone : En → Bool
  | .none => true
  | _ => false
theorem encE_free (e : En) : PyData.eqv (encE e) (encE .free) = isFree e := by
  cases e with
  | free => decide +kernel
  | none => decide +kernel
  | some m k =>
    simp only [encE]
    rw [eqv_one]
    cases m
    · rw [beq_eq_false_iff_ne.mpr (by decide +kernel)]
      rfl
    · rw [beq_eq_false_iff_ne.mpr (by decide +kernel)]
      rfl
theorem encE_none (e : En) : PyData.eqv (encE e) (encE .none) = isNone e := by
  cases e with
  | free => decide +kernel
  | none => decide +kernel
  | some m k =>
    simp only [encE]
    rw [eqv_one]
    cases m
    · rw [beq_eq_false_iff_ne.mpr (by decide +kernel)]
      rfl
    · rw [beq_eq_false_iff_ne.mpr (by decide +kernel)]
      rfl
/-- an entry that is none, or one held against none or free -/
theorem encE_low {le : Kd → Kd → Bool} {d e : En} (hd : isFree d = false) (h : (isNone d || isNone e || isFree e) = true) : PyData.eqv (encE d) (encE e) = leE le d e := by
  cases d with
  | free => cases hd
  | none =>
    cases e with
    | free => exact encE_free .none
    | none => exact encE_none .none
    | some m k =>
      have q := encE_none (.some m k)
      show PyData.eqv (encE .none) (encE (.some m k)) = false
      simp only [encE]
      rw [eqv_one]
      cases m
      · rw [beq_eq_false_iff_ne.mpr (by decide +kernel)]
        rfl
      · rw [beq_eq_false_iff_ne.mpr (by decide +kernel)]
        rfl
  | some m k =>
    cases e with
    | free => exact encE_free _
    | none => exact encE_none _
    | some m' k' => cases h
/-! ### how the data is shaped -/
theorem strOk_nm {x : Str} (h : x ∈ nms) : PyData.strOk x = true := by
  have q : nms.all (fun x => PyData.strOk x) = true := by decide +kernel
  exact List.all_eq_true.mp q x h
theorem strOk_mark (m : Bool) : PyData.strOk (markS m) = true := by cases m <;> decide +kernel
theorem shape_enc : ∀ (n : Nat) (k : Kd), Wf n k → (enc k).canLay0 = true ∧ (enc k).depth ≤ 3 * n
  | 0, _, h => h.elim
  | n + 1, k, h => by
    have ih := shape_enc n
    cases k with
    | any => exact ⟨by decide +kernel, by show 1 ≤ 3 * (n + 1); omega⟩
    | num => exact ⟨by decide +kernel, by show 1 ≤ 3 * (n + 1); omega⟩
    | truth => exact ⟨by decide +kernel, by show 1 ≤ 3 * (n + 1); omega⟩
    | to x y =>
      have h : Wf n x ∧ Wf n y := h
      obtain ⟨a1, a2⟩ := ih x h.1
      obtain ⟨b1, b2⟩ := ih y h.2
      have e : PyData.strOk ("to" : Str) = true := by decide +kernel
      simp only [enc, PyData.canLay0, PyData.canLayAll0, PyData.depth, PyData.depthAll, a1, b1, e, Bool.and_true, Bool.and_self, true_and]
      omega
    | box x =>
      have h : Wf n x := h
      obtain ⟨a1, a2⟩ := ih x h
      have e : PyData.strOk ("box" : Str) = true := by decide +kernel
      simp only [enc, PyData.canLay0, PyData.canLayAll0, PyData.depth, PyData.depthAll, a1, e, Bool.and_true, Bool.and_self, true_and]
      omega
    | row fs o =>
      have h : (names fs).Sublist nms ∧ ∀ f ∈ fs, Wf n f.2.2 := h
      have e : PyData.strOk ("row" : Str) = true := by decide +kernel
      have all : ∀ fs : List Fd, (∀ x ∈ names fs, x ∈ nms) → (∀ f ∈ fs, Wf n f.2.2) → PyData.canLayAll0 (encs fs) = true ∧ PyData.depthAll (encs fs) ≤ 3 * n + 1 := by
        intro fs
        induction fs with
        | nil =>
          intro _ _
          simp only [encs, PyData.canLayAll0, PyData.depthAll]
          exact ⟨trivial, Nat.zero_le _⟩
        | cons f fs ihf =>
          intro hn hf
          obtain ⟨x, m, k⟩ := f
          obtain ⟨a1, a2⟩ := ih k (hf _ List.mem_cons_self)
          obtain ⟨b1, b2⟩ := ihf (fun x hx => hn x (List.mem_cons_of_mem _ hx)) fun f h => hf f (List.mem_cons_of_mem _ h)
          have e1 : PyData.strOk x = true := strOk_nm (hn x List.mem_cons_self)
          simp only [encs, PyData.canLay0, PyData.canLayAll0, PyData.depth, PyData.depthAll, a1, b1, e1, strOk_mark, Bool.and_true, Bool.and_self, true_and]
          omega
      obtain ⟨a1, a2⟩ := all fs (fun x hx => h.1.subset hx) h.2
      simp only [enc, PyData.canLay0, PyData.canLayAll0, PyData.depth, PyData.depthAll, a1, e, Bool.and_true, Bool.and_self, true_and]
      omega
theorem shaped_enc {n : Nat} {k : Kd} (h : Wf n k) (hn : n ≤ 20) : SeqAt.shaped (enc k) = true := by
  obtain ⟨a, b⟩ := shape_enc n k h
  unfold SeqAt.shaped
  rw [Bool.and_eq_true]
  exact ⟨a, decide_eq_true (by omega)⟩
/-- the kinds of an entry are drawn -/
def WfE (n : Nat) : En → Prop
  | .some _ k => Wf n k
  | _ => True
theorem shaped_encE {n : Nat} {e : En} (h : WfE n e) (hn : n ≤ 20) : SeqAt.shaped (encE e) = true := by
  cases e with
  | free => decide +kernel
  | none => decide +kernel
  | some m k =>
    obtain ⟨a, b⟩ := shape_enc n k h
    unfold SeqAt.shaped
    rw [Bool.and_eq_true]
    simp only [encE, PyData.canLay0, PyData.canLayAll0, PyData.depth, PyData.depthAll, a, strOk_mark, Bool.and_true, Bool.and_self, true_and]
    exact decide_eq_true (by omega)
theorem wf_entry {n : Nat} {fs : List Fd} {o : Bool} {x : Str} (h : Wf (n + 1) (.row fs o)) : WfE n (entry fs o x) := by
  have h : (names fs).Sublist nms ∧ ∀ f ∈ fs, Wf n f.2.2 := h
  cases e : entry fs o x with
  | free => trivial
  | none => trivial
  | some m k => exact h.2 _ (mem_entry e)
end CW

/-! The program's text by places, the heap's relations, kinds in the heap. -/
namespace CW
open PySem L2
def top (i : Nat) : Stmt := PySem.Challenge.pw_castwright_k14_whole_an_order.main.body.getD i (.Pass ⟨0, 0, 0, 0⟩)
abbrev sIsName : Stmt := top 11
abbrev sAreFields : Stmt := top 12
abbrev sIsHeaded : Stmt := top 13
abbrev sWithin : Stmt := top 14
abbrev sCounted : Stmt := top 15
abbrev sParts : Stmt := top 16
abbrev sEntry : Stmt := top 17
abbrev sKnownIn : Stmt := top 18
abbrev sIsKnown : Stmt := top 19
abbrev sNames : Stmt := top 20
abbrev sEntryLess : Stmt := top 23
abbrev sLess : Stmt := top 24
abbrev sKnows : Stmt := top 25
abbrev sState : Stmt := top 27
abbrev sTake : Stmt := top 28
abbrev sKind : Stmt := top 29
abbrev sNear : Stmt := top 30
abbrev sForgot : Stmt := top 31
abbrev sLaw : Stmt := top 32

/-! ### what stays -/
/-- tuples, and what is frozen, stand as they stood -/
structure Tk (H H' : Hp) : Prop where
  tup : ∀ b xs, H b = some (.tup xs) → H' b = some (.tup xs)
  frz : ∀ b o u, H b = some (.frz o u) → H' b = some (.frz o u)
theorem Tk.refl (H : Hp) : Tk H H := ⟨fun _ _ h => h, fun _ _ _ h => h⟩
theorem Tk.trans {H H1 H2 : Hp} (a : Tk H H1) (b : Tk H1 H2) : Tk H H2 := ⟨fun c xs h => b.tup c xs (a.tup c xs h), fun c o u h => b.frz c o u (a.frz c o u h)⟩
theorem same_tk {H H' : Hp} (e : Same H H') : Tk H H' := ⟨fun b xs h => e b _ h, fun b o u h => e b _ h⟩
theorem same_new {H : Hp} {p : Addr} (h : H p = none) (o : HO) : Same H (upd H p o) := fun b u q => by
  rw [upd_ne (ne_of_none q h)]
  exact q
/-- all but what stands at st is as it was -/
def But (st : Addr) (H H' : Hp) : Prop := ∀ b o, b ≠ st → H b = some o → H' b = some o
theorem But.refl (st : Addr) (H : Hp) : But st H H := fun _ _ _ h => h
theorem But.trans {st : Addr} {H H1 H2 : Hp} (a : But st H H1) (b : But st H1 H2) : But st H H2 := fun c o n h => b c o n (a c o n h)
theorem same_but {st : Addr} {H H' : Hp} (e : Same H H') : But st H H' := fun b o _ h => e b o h
theorem but_upd (st : Addr) (H : Hp) (o : HO) : But st H (upd H st o) := fun b u n h => by
  rw [upd_ne n]
  exact h
/-- the law's state stands at st -/
def StAt (st : Addr) (H : Hp) : Prop := ∃ s f : Int, H st = some (.lst [.int s, .int f])
theorem StAt.ne {st : Addr} {H : Hp} (h : StAt st H) {b : Addr} (n : H b = none) : b ≠ st := by
  obtain ⟨s, f, e⟩ := h
  exact fun z => by rw [z, e] at n; cases n
theorem StAt.tk {st : Addr} {H H' : Hp} (h : StAt st H) (b : But st H H') : Tk H H' := by
  obtain ⟨s, f, e⟩ := h
  exact ⟨fun c xs q => b c _ (ne_of q e fun z => nomatch z) q, fun c o u q => b c _ (ne_of q e fun z => nomatch z) q⟩
theorem StAt.same {st : Addr} {H H' : Hp} (h : StAt st H) (e : Same H H') : StAt st H' := by
  obtain ⟨s, f, q⟩ := h
  exact ⟨s, f, e _ _ q⟩
theorem Tk.seqT {K : PySem.W.Frag} {H H' : Hp} {a : Addr} {xs : List V} (e : Tk H H') (h : SqT K H a xs) : SqT K H' a xs := by
  rcases h with (h | ⟨o, h⟩) | h
  · exact .inl (.inl (e.tup _ _ h))
  · exact .inl (.inr ⟨o, e.frz _ _ _ h⟩)
  · exact .inr h

/-! ### data of tuples, texts, truths -/
mutual
def tupD : PyData → Bool
  | .str _ => true
  | .bool _ => true
  | .tuple xs => tupDs xs
  | _ => false
def tupDs : List PyData → Bool
  | [] => true
  | d :: ds => tupD d && tupDs ds
end
mutual
theorem dp_tk {K : PySem.W.Frag} {H H' : Hp} (e : Tk H H') : ∀ (d : PyData) (v : V), tupD d = true → Dp K H v d → Dp K H' v d
  | .str x, v, _, h => by cases h; exact .str x
  | .bool b, v, _, h => by cases h; exact .bl b
  | .tuple ds, v, t, h => by
    cases h with
    | tup q l => exact .tup (e.seqT q) (dps_tk e ds _ (by simpa only [tupD] using t) l)
  | .none, _, t, _ => by cases t
  | .int _, _, t, _ => by cases t
  | .list _, _, t, _ => by cases t
  | .dict _, _, t, _ => by cases t
theorem dps_tk {K : PySem.W.Frag} {H H' : Hp} (e : Tk H H') : ∀ (ds : List PyData) (vs : List V), tupDs ds = true → DpAll K H vs ds → DpAll K H' vs ds
  | [], vs, _, h => by cases h; exact .nil
  | d :: ds, vs, t, h => by
    simp only [tupDs, Bool.and_eq_true] at t
    cases h with
    | cons h1 h2 => exact .cons (dp_tk e d _ t.1 h1) (dps_tk e ds _ t.2 h2)
end
mutual
theorem tup_enc : ∀ k : Kd, tupD (enc k) = true
  | .any => by simp only [enc, tupD, tupDs, Bool.and_self]
  | .num => by simp only [enc, tupD, tupDs, Bool.and_self]
  | .truth => by simp only [enc, tupD, tupDs, Bool.and_self]
  | .to a b => by simp only [enc, tupD, tupDs, tup_enc a, tup_enc b, Bool.and_self]
  | .box a => by simp only [enc, tupD, tupDs, tup_enc a, Bool.and_self]
  | .row fs o => by simp only [enc, tupD, tupDs, tup_encs fs, Bool.and_self]
theorem tup_encs : ∀ fs : List (Str × Bool × Kd), tupDs (encs fs) = true
  | [] => by simp only [encs, tupDs]
  | (n, m, k) :: fs => by simp only [encs, tupD, tupDs, tup_enc k, tup_encs fs, Bool.and_self]
end
theorem tup_encE (e : En) : tupD (encE e) = true := by
  cases e with
  | free => simp only [encE, tupD, tupDs, Bool.and_self]
  | none => simp only [encE, tupD, tupDs, Bool.and_self]
  | some m k => simp only [encE, tupD, tupDs, tup_enc k, Bool.and_self]

/-- the value v tells the kind k -/
abbrev KAt (K : PySem.W.Frag) (H : Hp) (v : V) (k : Kd) : Prop := Dp K H v (enc k)
theorem KAt.tk {K : PySem.W.Frag} {H H' : Hp} {v : V} {k : Kd} (h : KAt K H v k) (e : Tk H H') : KAt K H' v k := dp_tk e _ _ (tup_enc k) h
/-- the value v tells the entry e -/
abbrev EAt (K : PySem.W.Frag) (H : Hp) (v : V) (e : En) : Prop := Dp K H v (encE e)
theorem EAt.tk {K : PySem.W.Frag} {H H' : Hp} {v : V} {k : En} (h : EAt K H v k) (e : Tk H H') : EAt K H' v k := dp_tk e _ _ (tup_encE k) h
/-- what stands behind a kind's head -/
def rest : Kd → List PyData
  | .to a b => [enc a, enc b]
  | .box a => [enc a]
  | .row fs op => [.tuple (encs fs), .bool op]
  | _ => []
theorem enc_rest (k : Kd) : enc k = .tuple (.str (headS k) :: rest k) := by
  cases k <;> simp only [enc, rest, headS]
section
variable {K : PySem.W.Frag} {H : Hp} {v : V}
/-- a kind's tuple, its head first -/
theorem KAt.open {k : Kd} (h : KAt K H v k) : ∃ p vs, v = .ref p ∧ SqT K H p (.str (headS k) :: vs) ∧ DpAll K H vs (rest k) := by
  have h : Dp K H v (enc k) := h
  rw [enc_rest] at h
  cases h with
  | tup q l =>
    cases l with
    | cons h1 h2 =>
      cases h1
      exact ⟨_, _, rfl, q, h2⟩
theorem KAt.close {k : Kd} {p : Addr} {vs : List V} (q : SqT K H p (.str (headS k) :: vs)) (h : DpAll K H vs (rest k)) : KAt K H (.ref p) k := by
  show Dp K H (.ref p) (enc k)
  rw [enc_rest]
  exact .tup q (.cons (.str _) h)
theorem dps_cons {vs : List V} {d : PyData} {ds : List PyData} (h : DpAll K H vs (d :: ds)) : ∃ x xs, vs = x :: xs ∧ Dp K H x d ∧ DpAll K H xs ds := by
  cases h with
  | cons h1 h2 => exact ⟨_, _, rfl, h1, h2⟩
theorem dps_nil {vs : List V} (h : DpAll K H vs []) : vs = [] := by
  cases h
  rfl
theorem dp_tup {ds : List PyData} (h : Dp K H v (.tuple ds)) : ∃ a xs, v = .ref a ∧ SqT K H a xs ∧ DpAll K H xs ds := by
  cases h with
  | tup q l => exact ⟨_, _, rfl, q, l⟩
theorem dp_str {x : Str} (h : Dp K H v (.str x)) : v = .str x := by
  cases h
  rfl
theorem dp_bool {b : Bool} (h : Dp K H v (.bool b)) : v = .bl b := by
  cases h
  rfl
theorem KAt.row {fs : List Fd} {op : Bool} (h : KAt K H v (.row fs op)) : ∃ p q vs, v = .ref p ∧ SqT K H p [.str "row", .ref q, .bl op] ∧ SqT K H q vs ∧ DpAll K H vs (encs fs) := by
  obtain ⟨p, vs, e, q, l⟩ := h.open
  obtain ⟨x, xs, rfl, h1, l1⟩ := dps_cons (show DpAll K H vs [.tuple (encs fs), .bool op] from l)
  obtain ⟨y, ys, rfl, h2, l2⟩ := dps_cons l1
  obtain rfl := dps_nil l2
  obtain rfl := dp_bool h2
  obtain ⟨a, ws, rfl, q2, l3⟩ := dp_tup h1
  exact ⟨p, a, ws, e, q, q2, l3⟩
theorem KAt.to {a b : Kd} (h : KAt K H v (.to a b)) : ∃ p x y, v = .ref p ∧ SqT K H p [.str "to", x, y] ∧ KAt K H x a ∧ KAt K H y b := by
  obtain ⟨p, vs, e, q, l⟩ := h.open
  obtain ⟨x, xs, rfl, h1, l1⟩ := dps_cons (show DpAll K H vs [enc a, enc b] from l)
  obtain ⟨y, ys, rfl, h2, l2⟩ := dps_cons l1
  obtain rfl := dps_nil l2
  exact ⟨p, x, y, e, q, h1, h2⟩
theorem KAt.box {a : Kd} (h : KAt K H v (.box a)) : ∃ p x, v = .ref p ∧ SqT K H p [.str "box", x] ∧ KAt K H x a := by
  obtain ⟨p, vs, e, q, l⟩ := h.open
  obtain ⟨x, xs, rfl, h1, l1⟩ := dps_cons (show DpAll K H vs [enc a] from l)
  obtain rfl := dps_nil l1
  exact ⟨p, x, e, q, h1⟩
theorem dps_len : ∀ {vs : List V} {ds : List PyData}, DpAll K H vs ds → vs.length = ds.length
  | _, _, .nil => rfl
  | _, _, .cons _ h => congrArg Nat.succ (dps_len h)
theorem encs_len : ∀ fs : List Fd, (encs fs).length = fs.length
  | [] => by simp only [encs, List.length_nil]
  | (n, m, k) :: fs => by simp only [encs, List.length_cons, encs_len fs]
/-- the field at a place -/
theorem flds_at : ∀ {fs : List Fd} {vs : List V} {i : Nat} {x : V}, DpAll K H vs (encs fs) → vs[i]? = some x → ∃ n m k t y, fs[i]? = some (n, m, k) ∧ x = .ref t ∧ SqT K H t [.str n, .str (markS m), y] ∧ KAt K H y k
  | [], vs, i, x, h, e => by
    simp only [encs] at h
    obtain rfl := dps_nil h
    cases e
  | (n, m, k) :: fs, vs, i, x, h, e => by
    simp only [encs] at h
    obtain ⟨z, zs, rfl, h1, h2⟩ := dps_cons h
    cases i with
    | zero =>
      have e : z = x := Option.some.inj e
      subst e
      obtain ⟨t, xs, rfl, q, l⟩ := dp_tup h1
      obtain ⟨a1, as1, rfl, p1, l⟩ := dps_cons l
      obtain ⟨a2, as2, rfl, p2, l⟩ := dps_cons l
      obtain ⟨a3, as3, rfl, p3, l⟩ := dps_cons l
      obtain rfl := dps_nil l
      obtain rfl := dp_str p1
      obtain rfl := dp_str p2
      exact ⟨n, m, k, t, a3, rfl, rfl, q, p3⟩
    | succ i => exact flds_at (fs := fs) (vs := zs) (i := i) h2 e
theorem dps_append : ∀ {vs ws : List V} {ds es : List PyData}, DpAll K H vs ds → DpAll K H ws es → DpAll K H (vs ++ ws) (ds ++ es)
  | _, _, _, _, .nil, h => h
  | _, _, _, _, .cons a b, h => .cons a (dps_append b h)
theorem encs_append : ∀ fs gs : List Fd, encs (fs ++ gs) = encs fs ++ encs gs
  | [], gs => by simp only [encs, List.nil_append]
  | (n, m, k) :: fs, gs => by simp only [encs, List.cons_append, encs_append fs gs]
/-- one field more -/
theorem flds_snoc {fs : List Fd} {vs : List V} {n : Str} {m : Bool} {k : Kd} {t : Addr} {y : V} (h : DpAll K H vs (encs fs)) (q : SqT K H t [.str n, .str (markS m), y]) (a : KAt K H y k) : DpAll K H (vs ++ [.ref t]) (encs (fs ++ [(n, m, k)])) := by
  rw [encs_append]
  refine dps_append h ?_
  simp only [encs]
  exact .cons (.tup q (.cons (.str _) (.cons (.str _) (.cons a .nil)))) .nil
theorem flds_tk {H' : Hp} {fs : List Fd} {vs : List V} (h : DpAll K H vs (encs fs)) (e : Tk H H') : DpAll K H' vs (encs fs) := dps_tk e _ _ (tup_encs fs) h
theorem sqT_upd {p : Addr} {xs : List V} : SqT K (upd H p (.tup xs)) p xs := .inl (.inl upd_same)
theorem new_plain {k : Kd} {p : Addr} (h : rest k = []) : KAt K (upd H p (.tup [.str (headS k)])) (.ref p) k := .close sqT_upd (by rw [h]; exact .nil)
end

/-! ### what the top leaves -/
structure Glb (K : PySem.W.Frag) (mg : Str → Option Value) : Prop where
  free : ∃ a, mg "FREE" = some (.ref a) ∧ ∀ H, SqT K H a [.str "free"]
  non : ∃ a, mg "NONE" = some (.ref a) ∧ ∀ H, SqT K H a [.str "none"]
  any : ∃ a, mg "ANY" = some (.ref a) ∧ ∀ H, SqT K H a [.str "any"]
  plain : ∃ a, mg "PLAIN" = some (.ref a) ∧ ∀ H, SqT K H a [.str "any", .str "num", .str "truth"]
  parts : ∃ t, mg "MOST_PARTS" = some (.int 40 t)
  deep : ∃ t, mg "MOST_DEEP" = some (.int 8 t)
  signs : ∃ t, mg "MOST_SIGNS" = some (.int 8 t)
  small : ∃ t, mg "SMALL" = some (.str "abcdefghijklmnopqrstuvwxyz" t)
  len : mg "len" = none
  isinst : mg "isinstance" = none
  all : mg "all" = none
  zip : mg "zip" = none
  sum : mg "sum" = none
  sorted : mg "sorted" = none
  set : mg "set" = none
  list : mg "list" = none
  int : mg "int" = none
  tuple : mg "tuple" = none
  str : mg "str" = none
end CW

namespace CW
open PySem L2
section
variable {P : Program} {w : World} {K : PySem.W.Frag} {mg : Str → Option Value} {base : Heap} {f : Addr} {fd : FuncData}
theorem scEntry : FnScope ["kind", "name", "told", "mark", "inner"] ["kind", "name"] (defScope sEntry) := ⟨rfl, rfl, rfl, by decide +kernel, rfl, by decide +kernel, by decide +kernel⟩
def spEntry (K : PySem.W.Frag) : Sp := fun vs H Q _ => ∃ (v : V) (x : Str) (fs : List Fd) (op : Bool), vs = [v, .str x] ∧ KAt K H v (.row fs op) ∧ ∀ u H', Same H H' → EAt K H' u (entry fs op x) → Q u H'
theorem entry_drop {x : Str} {op : Bool} {fs : List Fd} {i : Nat} {n : Str} {m : Bool} {k : Kd} (e : fs[i]? = some (n, m, k)) : entry (fs.drop i) op x = if n = x then .some m k else entry (fs.drop (i + 1)) op x := by
  obtain ⟨h, e⟩ := List.getElem?_eq_some_iff.mp e
  rw [List.drop_eq_getElem_cons h, e]
  rfl
theorem ok_entry (F : Fun K "entry_of" "entry_of" sEntry f fd) (G : Glb K mg) : FnOk P w K mg base CX0 1 f fd ["kind", "name"] (spEntry K) := by
  obtain ⟨aF, mF, tF⟩ := G.free
  obtain ⟨aN, mN, tN⟩ := G.non
  refine F.ok scEntry (fun vs H Q E h => ?_) (fun cdv A outer s H vs Q E hr h => ?_)
  · obtain ⟨v, x, fs, op, rfl, _⟩ := h
    rfl
  obtain ⟨v, x, fs, op, rfl, hv, q⟩ := h
  have nd := scEntry.nd
  refine ⟨_, pss_cons (ps_for PassesOwn.never rfl (pi_tup (pe_ix ix_tup (pv 0) pe_int (fun _ _ => rfl)))
      (pg_tup rfl (pgs_cons (pg_name (i := 2) nd rfl (Or.inl rfl)) (pgs_cons (pg_name (i := 3) nd rfl (Or.inl rfl)) (pgs_cons (pg_name (i := 4) nd rfl (Or.inl rfl)) pgs_nil))))
      (pss_one (ps_if (pt_cmpR op_eq (pv 2) (pv 1) (nomark _)) (pss_one (ps_ret (pe_tup (pa_cons (pv 3) (pa_cons (pv 4) pa_nil))))) pss_nil)))
    (pss_cons (ps_if (pt_val (pe_ix ix_tup (pv 0) pe_int (fun _ _ => rfl))) (pss_one (ps_ret (pe_glob rfl mF (v := .ref aF) rfl))) pss_nil)
    (pss_one (ps_ret (pe_glob rfl mN (v := .ref aN) rfl)))), ?_⟩
  obtain ⟨p, a, ws, rfl, q1, q2, q3⟩ := hv.row
  refine ⟨_, rfl, p, _, _, _, rfl, rfl, q1, atI_nat (j := 1) rfl, a, rfl, ⟨_, q2⟩, for_it (walk_tup (K := K) (a := a) (xs := ws)) (fun i σ H2 => H2 = H ∧ (∃ o2 o3 o4, σ = [some (.ref p), some (.str x), o2, o3, o4]) ∧ entry fs op x = entry (fs.drop i) op x)
    ⟨rfl, ⟨none, none, none, rfl⟩, rfl⟩ (fun i σ H2 _ ⟨e, _⟩ => by rw [e]; exact q2) ?_ ?_⟩
  · rintro i y σ H2 H3 hi ⟨rfl, ⟨o2, o3, o4, rfl⟩, he⟩ ⟨rfl, hy⟩
    obtain ⟨n, m, k, t, z, e1, rfl, e3, e4⟩ := flds_at q3 hy
    rw [entry_drop e1] at he
    refine ⟨t, _, rfl, e3, rfl, _, _, rfl, _, _, rfl, _, _, rfl, rfl, ?_⟩
    refine ⟨_, rfl, _, rfl, rfl, _, rfl, ?_⟩
    refine ite2 (fun c => ?_) (fun c => ?_)
    · have c : V.str n = V.str x := of_decide_eq_true c
      cases c
      rw [if_pos rfl] at he
      refine ⟨_, rfl, _, rfl, (by show 2 ≤ sizeLine; decide), fun u hu => ?_⟩
      refine q _ _ (same_new hu _) ?_
      rw [he]
      show Dp K _ _ (encE (.some m k))
      simp only [encE]
      exact .tup sqT_upd (.cons (.str _) (.cons (e4.tk (same_tk (same_new hu _))) .nil))
    · have c : ¬ V.str n = V.str x := of_decide_eq_false (Bool.eq_false_iff.mpr c)
      rw [if_neg fun z => c (by rw [z])] at he
      exact ⟨rfl, ⟨_, _, _, rfl⟩, he⟩
  · rintro σ H2 ⟨rfl, ⟨o2, o3, o4, rfl⟩, he⟩
    have hl : ws.length = fs.length := (dps_len q3).trans (encs_len fs)
    rw [hl, List.drop_length] at he
    refine ⟨_, rfl, p, _, _, _, rfl, rfl, q1, atI_nat (j := 2) rfl, _, rfl, ?_⟩
    cases op with
    | true =>
      refine iteT ?_
      refine q _ _ (Same.refl _) ?_
      rw [he]
      show Dp K _ _ (encE .free)
      simp only [encE]
      exact .tup (tF _) (.cons (.str _) .nil)
    | false =>
      refine iteF ?_
      refine q _ _ (Same.refl _) ?_
      rw [he]
      show Dp K _ _ (encE .none)
      simp only [encE]
      exact .tup (tN _) (.cons (.str _) .nil)
end
end CW

namespace CW
open PySem L2
section
variable {P : Program} {w : World} {K : PySem.W.Frag} {mg : Str → Option Value} {base : Heap} {f : Addr} {fd : FuncData}
theorem scState : FnScope ["script", "k", "cell"] ["script", "k"] (defScope sState) := ⟨rfl, rfl, rfl, by decide +kernel, rfl, by decide +kernel, by decide +kernel⟩
def spState (K : PySem.W.Frag) : Sp := fun vs H Q _ => ∃ (a : Addr) (ns : List Int), vs = [.ref a, .int 0] ∧ SqL K H a (ns.map V.int) ∧ ∀ st H', StAt st H' → Q (.ref st) H'
theorem ok_state (F : Fun K "_law_state" "_law_state" sState f fd) (G : Glb K mg) : FnOk P w K mg base CX0 1 f fd ["script", "k"] (spState K) := by
  refine F.ok scState (fun vs H Q E h => ?_) (fun cdv A outer s H vs Q E hr h => ?_)
  · obtain ⟨a, ns, rfl, _⟩ := h
    rfl
  obtain ⟨a, ns, rfl, hS, q⟩ := h
  have nd := scState.nd
  have ml := G.len
  refine ⟨_, pss_cons (ps_set (i := 2) nd rfl (Or.inl rfl) pe_int)
    (pss_cons (ps_if (pt_cmpR op_lt (pv 1) (pe_callB call_len_seq rfl ml PySem.boot_len (pa_cons (pv 0) pa_nil)) (nomark _))
      (pss_one (ps_set (i := 2) nd rfl (Or.inl rfl) (pe_ix ix_list (pv 0) (pv 1) (fun _ _ => rfl)))) pss_nil)
    (pss_cons (ps_if (pt_cmpR op_ge (pv 2) (pe_op op_pow pe_int pe_int) (nomark _))
      (pss_one (ps_ret (pe_lst (pa_cons (pe_op op_sub (pv 2) (pe_op op_pow pe_int pe_int)) (pa_cons pe_int pa_nil))))) pss_nil)
    (pss_one (ps_ret (pe_lst (pa_cons (pe_op op_mod (pe_op op_add (pv 2) (pe_op op_mul pe_int (pv 1))) pe_int) (pa_cons pe_int pa_nil))))))), ?_⟩
  refine ⟨_, rfl, _, rfl, a, _, rfl, .inl hS, _, _, rfl, rfl, _, rfl, ?_⟩
  refine ite2 (fun c => ?_) (fun c => ?_)
  · have c : (0 : Int) < (((ns.map V.int).length : Nat) : Int) := of_decide_eq_true c
    rw [List.length_map] at c
    cases ns with
    | nil => exact absurd c (by decide)
    | cons n ns =>
      refine ⟨_, rfl, _, rfl, a, _, _, _, rfl, rfl, hS, atI_nat (j := 0) rfl, ?_⟩
      refine ⟨_, rfl, _, _, rfl, rfl, ⟨by decide, by decide, by decide⟩, _, _, rfl, rfl, _, rfl, ?_⟩
      refine ite2 (fun c2 => ?_) (fun c2 => ?_)
      · refine ⟨_, rfl, _, _, rfl, rfl, ⟨by decide, by decide, by decide⟩, _, _, rfl, rfl, (by show 2 ≤ sizeLine; decide), fun u hu => ?_⟩
        exact q _ _ ⟨_, _, upd_same⟩
      · refine ⟨_, rfl, _, rfl, _, _, rfl, rfl, .inl ⟨by decide, by decide⟩, _, _, rfl, rfl, _, _, rfl, rfl, (by show (0 : Int) < 2147483647; decide), (by show 2 ≤ sizeLine; decide), fun u hu => ?_⟩
        exact q _ _ ⟨_, _, upd_same⟩
  · refine ⟨_, rfl, _, _, rfl, rfl, ⟨by decide, by decide, by decide⟩, _, _, rfl, rfl, _, rfl, ?_⟩
    refine ite2 (fun c2 => ?_) (fun c2 => ?_)
    · refine ⟨_, rfl, _, _, rfl, rfl, ⟨by decide, by decide, by decide⟩, _, _, rfl, rfl, (by show 2 ≤ sizeLine; decide), fun u hu => ?_⟩
      exact q _ _ ⟨_, _, upd_same⟩
    · refine ⟨_, rfl, _, rfl, _, _, rfl, rfl, .inl ⟨by decide, by decide⟩, _, _, rfl, rfl, _, _, rfl, rfl, (by show (0 : Int) < 2147483647; decide), (by show 2 ≤ sizeLine; decide), fun u hu => ?_⟩
      exact q _ _ ⟨_, _, upd_same⟩

theorem scTake : FnScope ["state", "many", "found", "mixed"] ["state", "many"] (defScope sTake) := ⟨rfl, rfl, rfl, by decide +kernel, rfl, by decide +kernel, by decide +kernel⟩
/-- a number below m is taken; all but the state stays -/
def spTake : Sp := fun vs H Q _ => ∃ (st : Addr) (m : Int), vs = [.ref st, .int m] ∧ StAt st H ∧ 0 < m ∧ m < 1000 ∧ ∀ r H', 0 ≤ r → r < m → But st H H' → StAt st H' → Q (.int r) H'
theorem ok_take (F : Fun K "_law_take" "_law_take" sTake f fd) : FnOk P w K mg base CX0 1 f fd ["state", "many"] spTake := by
  refine F.ok scTake (fun vs H Q E h => ?_) (fun cdv A outer s H vs Q E hr h => ?_)
  · obtain ⟨st, m, rfl, _⟩ := h
    rfl
  obtain ⟨st, m, rfl, ⟨s0, f0, hs⟩, hm0, hm1, q⟩ := h
  have nd := scTake.nd
  refine ⟨_, pss_cons (ps_if (PW.pt (pw_and (pt_cmpR op_eq (pe_ix ix_list (pv 0) pe_int (fun _ _ => rfl)) pe_int (nomark _)) (pw_and1 (pt_cmpR op_gt (pe_ix ix_list (pv 0) pe_int (fun _ _ => rfl)) pe_int (nomark _)))))
      (pss_cons (ps_set (i := 2) nd rfl (Or.inl rfl) (pe_op op_mod (pe_ix ix_list (pv 0) pe_int (fun _ _ => rfl)) (pv 1)))
      (pss_cons (ps_asg (pe_op op_fdiv (pe_ix ix_list (pv 0) pe_int (fun _ _ => rfl)) (pv 1)) (pg_sub (pv 0) pe_int set_list))
      (pss_one (ps_ret (pv 2))))) pss_nil)
    (pss_cons (ps_asg pe_int (pg_sub (pv 0) pe_int set_list))
    (pss_cons (ps_asg (pe_op op_mod (pe_op op_add (pe_op op_mul (pe_ix ix_list (pv 0) pe_int (fun _ _ => rfl)) pe_int) pe_int) pe_int) (pg_sub (pv 0) pe_int set_list))
    (pss_cons (ps_set (i := 3) nd rfl (Or.inl rfl) (pe_op op_mod (pe_op op_add (pe_op op_mul (pe_ix ix_list (pv 0) pe_int (fun _ _ => rfl)) (pe_ix ix_list (pv 0) pe_int (fun _ _ => rfl))) (pe_op op_mul pe_int (pe_ix ix_list (pv 0) pe_int (fun _ _ => rfl)))) pe_int))
    (pss_cons (ps_set (i := 3) nd rfl (Or.inl rfl) (pe_op op_mod (pe_op op_add (pe_op op_mul (pv 3) (pv 3)) (pe_op op_mul pe_int (pv 3))) pe_int))
    (pss_one (ps_ret (pe_op op_mod (pe_op op_fdiv (pv 3) pe_int) (pv 1)))))))), ?_⟩
  refine ⟨_, rfl, st, _, _, _, rfl, rfl, SqL.of hs, atI_nat (j := 1) rfl, rfl, _, rfl, ?_⟩
  refine ite2 (fun c1 => ?_) (fun c1 => iteF ?_)
  · refine ⟨_, rfl, st, _, _, _, rfl, rfl, SqL.of hs, atI_nat (j := 0) rfl, _, _, rfl, rfl, _, rfl, ?_⟩
    refine ite2 (fun c2 => ?_) (fun c2 => ?_)
    · refine ⟨_, rfl, st, _, _, _, rfl, rfl, SqL.of hs, atI_nat (j := 0) rfl, _, rfl, _, _, rfl, rfl, hm0, ?_⟩
      refine ⟨_, rfl, st, _, _, _, rfl, rfl, SqL.of hs, atI_nat (j := 0) rfl, _, rfl, _, _, rfl, rfl, ⟨hm0, by omega⟩, _, rfl, st, _, _, _, rfl, rfl, hs, rfl, ?_⟩
      refine ⟨_, rfl, ?_⟩
      exact q _ _ (Int.emod_nonneg _ (by omega)) (Int.emod_lt_of_pos _ hm0) (but_upd st H _) ⟨_, _, upd_same⟩
    · show tSeq _ _ _ _ _
      refine ⟨_, rfl, st, _, _, _, rfl, rfl, hs, rfl, ?_⟩
      refine ⟨_, rfl, st, _, _, _, rfl, rfl, SqL.of upd_same, atI_nat (j := 0) rfl, _, _, rfl, rfl, .inr ⟨by decide, by decide⟩, _, _, rfl, rfl, _, _, rfl, rfl, (by show (0 : Int) < 2147483647; decide), _, rfl, st, _, _, _, rfl, rfl, upd_same, rfl, ?_⟩
      have a0 := Int.emod_nonneg (s0 * 48271 + 69621) (by decide : (2147483647 : Int) ≠ 0)
      have a1 := Int.emod_lt_of_pos (s0 * 48271 + 69621) (by decide : (0 : Int) < 2147483647)
      generalize (s0 * 48271 + 69621) % 2147483647 = s1 at a0 a1 ⊢
      refine ⟨_, rfl, st, _, _, _, rfl, rfl, SqL.of upd_same, atI_nat (j := 0) rfl, _, rfl, st, _, _, _, rfl, rfl, SqL.of upd_same, atI_nat (j := 0) rfl, _, _, rfl, rfl, .inl ⟨by omega, by omega⟩,
        _, rfl, st, _, _, _, rfl, rfl, SqL.of upd_same, atI_nat (j := 0) rfl, _, _, rfl, rfl, .inl ⟨by decide, by decide⟩, _, _, rfl, rfl, _, _, rfl, rfl, (by show (0 : Int) < 2147483629; decide), ?_⟩
      have b0 := Int.emod_nonneg (s1 * s1 + 16807 * s1) (by decide : (2147483629 : Int) ≠ 0)
      have b1 := Int.emod_lt_of_pos (s1 * s1 + 16807 * s1) (by decide : (0 : Int) < 2147483629)
      generalize (s1 * s1 + 16807 * s1) % 2147483629 = m1 at b0 b1 ⊢
      refine ⟨_, rfl, _, rfl, _, _, rfl, rfl, .inl ⟨by omega, by omega⟩, _, rfl, _, _, rfl, rfl, .inl ⟨by decide, by decide⟩, _, _, rfl, rfl, _, _, rfl, rfl, (by show (0 : Int) < 2147483587; decide), ?_⟩
      refine ⟨_, rfl, _, _, rfl, rfl, ⟨by decide, by decide⟩, _, rfl, _, _, rfl, rfl, hm0, ?_⟩
      exact q _ _ (Int.emod_nonneg _ (by omega)) (Int.emod_lt_of_pos _ hm0) ((but_upd st H _).trans (but_upd st _ _)) ⟨_, _, upd_same⟩
  · show tSeq _ _ _ _ _
    refine ⟨_, rfl, st, _, _, _, rfl, rfl, hs, rfl, ?_⟩
    refine ⟨_, rfl, st, _, _, _, rfl, rfl, SqL.of upd_same, atI_nat (j := 0) rfl, _, _, rfl, rfl, .inr ⟨by decide, by decide⟩, _, _, rfl, rfl, _, _, rfl, rfl, (by show (0 : Int) < 2147483647; decide), _, rfl, st, _, _, _, rfl, rfl, upd_same, rfl, ?_⟩
    have a0 := Int.emod_nonneg (s0 * 48271 + 69621) (by decide : (2147483647 : Int) ≠ 0)
    have a1 := Int.emod_lt_of_pos (s0 * 48271 + 69621) (by decide : (0 : Int) < 2147483647)
    generalize (s0 * 48271 + 69621) % 2147483647 = s1 at a0 a1 ⊢
    refine ⟨_, rfl, st, _, _, _, rfl, rfl, SqL.of upd_same, atI_nat (j := 0) rfl, _, rfl, st, _, _, _, rfl, rfl, SqL.of upd_same, atI_nat (j := 0) rfl, _, _, rfl, rfl, .inl ⟨by omega, by omega⟩,
      _, rfl, st, _, _, _, rfl, rfl, SqL.of upd_same, atI_nat (j := 0) rfl, _, _, rfl, rfl, .inl ⟨by decide, by decide⟩, _, _, rfl, rfl, _, _, rfl, rfl, (by show (0 : Int) < 2147483629; decide), ?_⟩
    have b0 := Int.emod_nonneg (s1 * s1 + 16807 * s1) (by decide : (2147483629 : Int) ≠ 0)
    have b1 := Int.emod_lt_of_pos (s1 * s1 + 16807 * s1) (by decide : (0 : Int) < 2147483629)
    generalize (s1 * s1 + 16807 * s1) % 2147483629 = m1 at b0 b1 ⊢
    refine ⟨_, rfl, _, rfl, _, _, rfl, rfl, .inl ⟨by omega, by omega⟩, _, rfl, _, _, rfl, rfl, .inl ⟨by decide, by decide⟩, _, _, rfl, rfl, _, _, rfl, rfl, (by show (0 : Int) < 2147483587; decide), ?_⟩
    refine ⟨_, rfl, _, _, rfl, rfl, ⟨by decide, by decide⟩, _, rfl, _, _, rfl, rfl, hm0, ?_⟩
    exact q _ _ (Int.emod_nonneg _ (by omega)) (Int.emod_lt_of_pos _ hm0) ((but_upd st H _).trans (but_upd st _ _)) ⟨_, _, upd_same⟩
end
end CW

namespace CW
open PySem L2
/-! ### more of heaps -/
/-- a list at D is stored anew: tuples stay -/
theorem tk_lst {H : Hp} {D : Addr} {xs ys : List V} (h : H D = some (.lst xs)) : Tk H (upd H D (.lst ys)) :=
  ⟨fun b zs q => by rw [upd_ne (ne_of q h fun z => nomatch z)]; exact q, fun b o u q => by rw [upd_ne (ne_of q h fun z => nomatch z)]; exact q⟩
/-- what is new since H0 is stored anew -/
theorem same_at {H0 H : Hp} {D : Addr} {o : HO} (h : Same H0 H) (n : H0 D = none) : Same H0 (upd H D o) := fun b u q => by
  rw [upd_ne (ne_of_none q n)]
  exact h b u q
theorem tk_new {H : Hp} {p : Addr} {o : HO} (h : H p = none) : Tk H (upd H p o) := same_tk (same_new h o)
/-- the steps and kinds of a list of pairs -/
def encSubs (ps : List (Str × Kd)) : List PyData := ps.map fun p => .tuple [.str p.1, enc p.2]
theorem tup_subs : ∀ ps : List (Str × Kd), tupDs (encSubs ps) = true
  | [] => by simp only [encSubs, List.map_nil, tupDs]
  | p :: ps => by
    have ih := tup_subs ps
    show (tupD (.tuple [.str p.1, enc p.2]) && tupDs (encSubs ps)) = true
    rw [ih]
    simp only [tupD, tupDs, tup_enc, Bool.and_self]
section
variable {K : PySem.W.Frag} {H : Hp}
theorem subs_tk {H' : Hp} {ps : List (Str × Kd)} {vs : List V} (h : DpAll K H vs (encSubs ps)) (e : Tk H H') : DpAll K H' vs (encSubs ps) := dps_tk e _ _ (tup_subs ps) h
theorem subs_snoc {ps : List (Str × Kd)} {vs : List V} {n : Str} {k : Kd} {t : Addr} {y : V} (h : DpAll K H vs (encSubs ps)) (q : SqT K H t [.str n, y]) (a : KAt K H y k) : DpAll K H (vs ++ [.ref t]) (encSubs (ps ++ [(n, k)])) := by
  unfold encSubs at h ⊢
  rw [List.map_append]
  exact dps_append h (.cons (.tup q (.cons (.str _) (.cons a .nil))) .nil)
theorem subs_at : ∀ {ps : List (Str × Kd)} {vs : List V} {i : Nat} {x : V}, DpAll K H vs (encSubs ps) → vs[i]? = some x → ∃ n k t y, ps[i]? = some (n, k) ∧ x = .ref t ∧ SqT K H t [.str n, y] ∧ KAt K H y k
  | [], vs, i, x, h, e => by
    obtain rfl := dps_nil (show DpAll K H vs [] from h)
    cases e
  | (n, k) :: ps, vs, i, x, h, e => by
    obtain ⟨z, zs, rfl, h1, h2⟩ := dps_cons (show DpAll K H vs (.tuple [.str n, enc k] :: encSubs ps) from h)
    cases i with
    | zero =>
      have e : z = x := Option.some.inj e
      subst e
      obtain ⟨t, xs, rfl, q, l⟩ := dp_tup h1
      obtain ⟨a1, as1, rfl, p1, l⟩ := dps_cons l
      obtain ⟨a2, as2, rfl, p2, l⟩ := dps_cons l
      obtain rfl := dps_nil l
      obtain rfl := dp_str p1
      exact ⟨n, k, t, a2, rfl, rfl, q, p2⟩
    | succ i => exact subs_at (ps := ps) (vs := zs) (i := i) h2 e
theorem subs_len {ps : List (Str × Kd)} {vs : List V} (h : DpAll K H vs (encSubs ps)) : vs.length = ps.length := (dps_len h).trans (List.length_map _)
end
theorem take_one {α : Type} {l : List α} {i : Nat} {x : α} (e : l[i]? = some x) : l.take (i + 1) = l.take i ++ [x] := by
  rw [List.take_add_one, e]
  rfl
theorem yesT {σ : L2.St} {H : Hp} {A B : Hp → Prop} (h : A H) : tYes σ H (fun b H3 => if b = true then A H3 else B H3) := by
  show if true = true then A H else B H
  rw [if_pos rfl]
  exact h
theorem small100 {n : Nat} (h : n ≤ 100) : n < sizeLine := small1000 (by omega)
section
variable {P : Program} {w : World} {K : PySem.W.Frag} {mg : Str → Option Value} {base : Heap} {f : Addr} {fd : FuncData}
/-! ### is_name -/
theorem scIsName : FnScope ["thing", "sign"] ["thing"] (defScope sIsName) := ⟨rfl, rfl, rfl, by decide +kernel, rfl, by decide +kernel, by decide +kernel⟩
def spIsName : Sp := fun vs H Q _ => ∃ x : Str, vs = [.str x] ∧ x ∈ nms ∧ ∀ H', Same H H' → Q (.bl true) H'
theorem nm_facts {x : Str} (h : x ∈ nms) : 1 ≤ x.length ∧ x.length ≤ 8 ∧ ∀ c ∈ x.cps.toList, c ∈ ("abcdefghijklmnopqrstuvwxyz" : Str).cps.toList := by
  have q : ∀ x ∈ nms, 1 ≤ x.length ∧ x.length ≤ 8 ∧ ∀ c ∈ x.cps.toList, c ∈ ("abcdefghijklmnopqrstuvwxyz" : Str).cps.toList := by decide +kernel
  exact q x h
theorem ok_isName (F : Fun K "is_name" "is_name" sIsName f fd) (G : Glb K mg) : FnOk P w K mg base CX0 1 f fd ["thing"] spIsName := by
  obtain ⟨tS, mS⟩ := G.signs
  obtain ⟨tL, mL⟩ := G.small
  refine F.ok scIsName (fun vs H Q E h => ?_) (fun cdv A outer s H vs Q E hr h => ?_)
  · obtain ⟨x, rfl, _⟩ := h
    rfl
  obtain ⟨x, rfl, hx, q⟩ := h
  obtain ⟨n1, n2, n3⟩ := nm_facts hx
  have nd := scIsName.nd
  refine ⟨_, pss_one (ps_ret (pe_and (pe_callB call_isi rfl G.isinst PyProof.Rows.boot_isinstance (pa_cons (pv 0) (pa_cons (pe_bltn rfl G.str PyProof.Rows.boot_str (v := .ty "str") rfl) pa_nil)))
    (pe_and (pe_chain op_le op_le pe_int (pe_callB call_len_str rfl G.len PySem.boot_len (pa_cons (pv 0) pa_nil)) (pe_glob rfl mS (v := .int 8) ⟨_, rfl⟩))
      (pe_one (pe_callB (cr_all rfl) rfl G.all (by decide +kernel) (pa_cons (pe_lc (own := [("sign", 1)]) (g := gName 1) (tt := tYes) rfl nd (pi_str (pv 0)) (blkOk_by (own := [("sign", 1)]) (N := ["thing", "sign"]) (sc := defScope sIsName) (by decide +kernel))
        (fun _ _ _ _ _ => pg_name (i := 1) nd rfl (Or.inl rfl)) (fun _ _ _ _ _ => pts_nil) (fun _ _ _ _ _ => pe_cmpR op_in_sign (pv 1) (pe_glob rfl mL (v := .str "abcdefghijklmnopqrstuvwxyz") ⟨_, rfl⟩) rfl)) pa_nil)))))), ?_⟩
  refine ⟨_, rfl, _, _, .type "str", .type "str", true, rfl, ClsV.ty "str", .base (.str x), if_pos (beq_self_eq_true _), true, rfl, iteT ?_⟩
  refine ⟨_, rfl, _, rfl, (by have := small100 (n := x.length) (by omega); omega), _, _, rfl, rfl, _, rfl, ?_⟩
  refine ite2 (fun _ => ?_) (fun c => absurd (decide_eq_true (by omega)) c)
  refine ⟨_, _, rfl, rfl, _, rfl, ?_⟩
  refine ite2 (fun _ => ?_) (fun c => absurd (decide_eq_true (by omega)) c)
  refine ⟨_, rfl, x, rfl, fun D hD => lc_it walk_str (fun i H2 => Same H H2 ∧ H2 D = some (.lst ((List.replicate i true).map V.bl))) ⟨same_new hD _, upd_same⟩ (fun _ _ _ _ => trivial) ?_ ?_⟩
  · rintro i y H2 H3 hi ⟨s2, e2⟩ ⟨rfl, c, hc, rfl⟩
    refine ⟨rfl, yesT ?_⟩
    refine ⟨_, rfl, c, _, rfl, rfl, ?_⟩
    have hm : c ∈ x.cps.toList := by
      rw [← Array.getElem?_toList] at hc
      exact List.mem_of_getElem? hc
    rw [decide_eq_true (n3 c hm)]
    have hi : i < x.length := hi
    refine ⟨_, e2, small100 (by rw [List.length_map, List.length_replicate]; omega), same_at s2 hD, ?_⟩
    rw [upd_same, List.replicate_succ', List.map_append]
    rfl
  · rintro H2 ⟨s2, e2⟩
    refine ⟨D, _, rfl, SqL.of e2, ?_⟩
    have e : (List.replicate x.cps.size true).all id = true := by
      rw [List.all_eq_true]
      intro b hb
      rw [(List.mem_replicate.mp hb).2]
      rfl
    rw [e]
    exact q H2 s2
/-! ### kinds_within -/
theorem scWithin : FnScope ["kind", "name", "mark", "inner"] ["kind"] (defScope sWithin) := ⟨rfl, rfl, rfl, by decide +kernel, rfl, by decide +kernel, by decide +kernel⟩
def spWithin (K : PySem.W.Frag) : Sp := fun vs H Q _ => ∃ (v : V) (k : Kd), vs = [v] ∧ KAt K H v k ∧ (subs k).length ≤ 3 ∧ ∀ p ws H', Same H H' → H' p = some (.lst ws) → DpAll K H' ws (encSubs (subs k)) → Q (.ref p) H'
theorem ok_within (F : Fun K "kinds_within" "kinds_within" sWithin f fd) : FnOk P w K mg base CX0 1 f fd ["kind"] (spWithin K) := by
  refine F.ok scWithin (fun vs H Q E h => ?_) (fun cdv A outer s H vs Q E hr h => ?_)
  · obtain ⟨v, k, rfl, _⟩ := h
    rfl
  obtain ⟨v, k, rfl, hv, h3, q⟩ := h
  have nd := scWithin.nd
  refine ⟨_, pss_cons (ps_if (pt_cmpR op_eq (pe_ix ix_tup (pv 0) pe_int (fun _ _ => rfl)) pe_str (nomark _))
      (pss_one (ps_ret (pe_lst (pa_cons (pe_tup (pa_cons pe_str (pa_cons (pe_ix ix_tup (pv 0) pe_int (fun _ _ => rfl)) pa_nil))) (pa_cons (pe_tup (pa_cons pe_str (pa_cons (pe_ix ix_tup (pv 0) pe_int (fun _ _ => rfl)) pa_nil))) pa_nil))))) pss_nil)
    (pss_cons (ps_if (pt_cmpR op_eq (pe_ix ix_tup (pv 0) pe_int (fun _ _ => rfl)) pe_str (nomark _))
      (pss_one (ps_ret (pe_lst (pa_cons (pe_tup (pa_cons pe_str (pa_cons (pe_ix ix_tup (pv 0) pe_int (fun _ _ => rfl)) pa_nil))) pa_nil)))) pss_nil)
    (pss_cons (ps_if (pt_cmpR op_eq (pe_ix ix_tup (pv 0) pe_int (fun _ _ => rfl)) pe_str (nomark _))
      (pss_one (ps_ret (pe_lc (own := [("name", 1), ("mark", 2), ("inner", 3)]) (g := gTup K 3 (gCons (gName 1) (gCons (gName 2) (gCons (gName 3) gNil)))) (tt := tYes) rfl nd (pi_tup (pe_ix ix_tup (pv 0) pe_int (fun _ _ => rfl)))
        (blkOk_by (own := [("name", 1), ("mark", 2), ("inner", 3)]) (N := ["kind", "name", "mark", "inner"]) (sc := defScope sWithin) (by decide +kernel))
        (fun _ _ _ _ _ => pg_tup rfl (pgs_cons (pg_name (i := 1) nd rfl (Or.inl rfl)) (pgs_cons (pg_name (i := 2) nd rfl (Or.inl rfl)) (pgs_cons (pg_name (i := 3) nd rfl (Or.inl rfl)) pgs_nil))))
        (fun _ _ _ _ _ => pts_nil) (fun _ _ _ _ _ => pe_tup (pa_cons (pv 1) (pa_cons (pv 3) pa_nil)))))) pss_nil)
    (pss_one (ps_ret (pe_lst pa_nil))))), ?_⟩
  obtain ⟨p, vs, rfl, q1, q2⟩ := hv.open
  have t := headS_tag k
  have hd : ∀ i j : Fin 6, decide (V.str (tagS i) = V.str (tagS j)) = decide (i = j) := by decide +kernel
  have d0 : ∀ j : Fin 6, decide (V.str (headS k) = V.str (tagS j)) = decide (tag k = j) := fun j => by rw [t, hd]
  refine ⟨_, rfl, p, _, _, _, rfl, rfl, q1, atI_nat (j := 0) rfl, rfl, _, rfl, ?_⟩
  rw [show decide (V.str (headS k) = V.str "to") = decide (tag k = 3) from d0 3]
  have step1 : ∀ {A B : Prop}, (tag k ≠ 3 → B) → (tag k = 3 → A) → if decide (tag k = 3) = true then A else B := fun h1 h2 => ite2 (fun c => h2 (of_decide_eq_true c)) (fun c => h1 (of_decide_eq_false (Bool.eq_false_iff.mpr c)))
  refine step1 (fun c1 => ?_) (fun c1 => ?_)
  · refine ⟨_, rfl, p, _, _, _, rfl, rfl, q1, atI_nat (j := 0) rfl, rfl, _, rfl, ?_⟩
    rw [show decide (V.str (headS k) = V.str "box") = decide (tag k = 4) from d0 4]
    refine ite2 (fun c2 => ?_) (fun c2 => ?_)
    · have c2 : tag k = 4 := of_decide_eq_true c2
      cases k with
      | box a =>
        obtain ⟨p', x, e, r1, r2⟩ := hv.box
        cases e
        refine ⟨_, rfl, p, _, _, _, rfl, rfl, r1, atI_nat (j := 1) rfl, (by show 2 ≤ sizeLine; decide), fun u hu => ?_⟩
        refine ⟨(by show 1 ≤ sizeLine; decide), fun l hl => ?_⟩
        have tk2 := (tk_new (o := .tup [.str "inside", x]) hu).trans (tk_new (o := .lst [.ref u]) hl)
        refine q l [.ref u] _ ((same_new hu _).trans (same_new hl _)) upd_same ?_
        exact .cons (.tup ((tk_new hl).seqT sqT_upd) (.cons (.str _) (.cons (r2.tk tk2) .nil))) .nil
      | _ => exact absurd c2 (by simp [tag])
    · have c2 : ¬ tag k = 4 := of_decide_eq_false (Bool.eq_false_iff.mpr c2)
      refine ⟨_, rfl, p, _, _, _, rfl, rfl, q1, atI_nat (j := 0) rfl, rfl, _, rfl, ?_⟩
      rw [show decide (V.str (headS k) = V.str "row") = decide (tag k = 5) from d0 5]
      refine ite2 (fun c3 => ?_) (fun c3 => ?_)
      · have c3 : tag k = 5 := of_decide_eq_true c3
        cases k with
        | row fs op =>
          obtain ⟨p', a, ws, e, r1, r2, r3⟩ := hv.row
          cases e
          have hl : ws.length = fs.length := (dps_len r3).trans (encs_len fs)
          have h3 : fs.length ≤ 3 := by
            have h3 : (fs.map fun f => (f.1, f.2.2)).length ≤ 3 := h3
            rw [List.length_map] at h3
            exact h3
          refine ⟨_, rfl, p, _, _, _, rfl, rfl, r1, atI_nat (j := 1) rfl, a, rfl, ⟨_, r2⟩, fun D hD => lc_it (walk_tup (K := K) (a := a) (xs := ws))
            (fun i H2 => ∃ acc, H2 D = some (.lst acc) ∧ Same H H2 ∧ acc.length = i ∧ DpAll K H2 acc (encSubs ((subs (.row fs op)).take i))) ⟨[], upd_same, same_new hD _, rfl, .nil⟩ (fun i H2 _ ⟨acc, _, s2, _⟩ => (same_tk s2).seqT r2) ?_ ?_⟩
          · rintro i y H2 H3 hi ⟨acc, e2, s2, ea, d2⟩ ⟨rfl, hy⟩
            obtain ⟨n, m, k, t, z, e1, rfl, e3, e4⟩ := flds_at r3 hy
            have tk2 := same_tk s2
            refine ⟨t, _, rfl, tk2.seqT e3, rfl, _, _, rfl, _, _, rfl, _, _, rfl, rfl, ?_⟩
            refine ⟨rfl, yesT ?_⟩
            refine ⟨_, rfl, _, rfl, (by show 2 ≤ sizeLine; decide), fun u hu => ?_⟩
            have hDu : D ≠ u := ne_of_none e2 hu
            refine ⟨acc, by rw [upd_ne hDu]; exact e2, small100 (by omega), acc ++ [.ref u], upd_same, same_at (s2.trans (same_new hu _)) hD, by rw [List.length_append, ea]; rfl, ?_⟩
            have e5 : (subs (.row fs op))[i]? = some (n, k) := by
              show (fs.map fun f => (f.1, f.2.2))[i]? = _
              rw [List.getElem?_map, e1]
              rfl
            rw [take_one e5]
            have tk3 : Tk (upd H3 u (.tup [.str n, z])) (upd (upd H3 u (.tup [.str n, z])) D (.lst (acc ++ [.ref u]))) := tk_lst (by rw [upd_ne hDu]; exact e2)
            exact subs_snoc (subs_tk d2 ((tk_new hu).trans tk3)) (tk3.seqT sqT_upd) (e4.tk ((tk2.trans (tk_new hu)).trans tk3))
          · rintro H2 ⟨acc, e2, s2, ea, d2⟩
            rw [hl, show fs.length = (subs (.row fs op)).length from (List.length_map _).symm, List.take_length] at d2
            exact q D acc H2 s2 e2 d2
        | _ => exact absurd c3 (by simp [tag])
      · have c3 : ¬ tag k = 5 := of_decide_eq_false (Bool.eq_false_iff.mpr c3)
        refine ⟨(by show 0 ≤ sizeLine; decide), fun l hl => ?_⟩
        have e : subs k = [] := by
          cases k <;> first | rfl | (exact absurd rfl c1) | (exact absurd rfl c2) | (exact absurd rfl c3)
        refine q l [] _ (same_new hl _) upd_same ?_
        rw [e]
        exact .nil
  · cases k with
    | to a b =>
      obtain ⟨p', x, y, e, r1, r2, r3⟩ := hv.to
      cases e
      refine ⟨_, rfl, p, _, _, _, rfl, rfl, r1, atI_nat (j := 1) rfl, (by show 2 ≤ sizeLine; decide), fun u hu => ?_⟩
      have t1 := tk_new (o := .tup [.str "in", x]) hu
      refine ⟨_, rfl, p, _, _, _, rfl, rfl, t1.seqT r1, atI_nat (j := 2) rfl, (by show 2 ≤ sizeLine; decide), fun u2 hu2 => ?_⟩
      have t2 := tk_new (o := .tup [.str "out", y]) hu2
      refine ⟨(by show 2 ≤ sizeLine; decide), fun l hl => ?_⟩
      have t3 := tk_new (o := .lst [.ref u, .ref u2]) hl
      refine q l [.ref u, .ref u2] _ (((same_new hu _).trans (same_new hu2 _)).trans (same_new hl _)) upd_same ?_
      exact .cons (.tup ((t2.trans t3).seqT sqT_upd) (.cons (.str _) (.cons (r2.tk ((t1.trans t2).trans t3)) .nil))) (.cons (.tup (t3.seqT sqT_upd) (.cons (.str _) (.cons (r3.tk ((t1.trans t2).trans t3)) .nil))) .nil)
    | _ => exact absurd c1 (by simp [tag])
end
end CW

namespace CW
open PySem L2
/-- a def that callers may lean on: it stands under its name and keeps its promise -/
def Cal (P : Program) (w : World) (K : PySem.W.Frag) (mg : Str → Option Value) (base : Heap) (k : Nat) (x : Str) (ps : List Str) (sp : Sp) : Prop :=
  ∃ f fd, FnOk P w K mg base CX0 k f fd ps sp ∧ Binds K fd ps [] ∧ PySem.W.keepIn K (.ref f) = true ∧ mg x = some (.ref f)
theorem tyx_tup {K : PySem.W.Frag} {H : Hp} {p : Addr} {xs : List V} (h : SqT K H p xs) : TyX K H (.ref p) (.type "tuple") := by
  rcases h with (h | ⟨o, h⟩) | ⟨o, its, n, h, c, _⟩
  · exact .base (.tup h)
  · exact .fTuple h
  · exact .kTuple h c
theorem kit_same {K : PySem.W.Frag} {t : String} : PySem.W.kitOne K (.type t) (.type t) = some true := if_pos (beq_self_eq_true _)
/-- zip of two tuples, walked -/
theorem walk_zipT {K : PySem.W.Frag} {a b : Addr} {xs ys : List V} {n : Nat} (hn : n = min xs.length ys.length) : Walk (RZ.ItzT K a b) n (fun H => SqT K H a xs ∧ SqT K H b ys) (YPair (fun i => xs[i]?) (fun i => ys[i]?)) := by
  constructor
  · intro i H hi both
    have lx : i < xs.length := by omega
    have ly : i < ys.length := by omega
    refine ⟨xs, ys, xs[i], ys[i], both.1, both.2, ?_, ?_⟩
    · exact List.getElem?_eq_getElem lx
    · exact List.getElem?_eq_getElem ly
  · intro H both
    refine ⟨xs, ys, both.1, both.2, ?_⟩
    omega
  · rintro i H v H' _ both ⟨t, x, y, e1, e2, e3, gx, gy⟩
    exact ⟨t, x, y, e1, e2, e3, gx xs both.1, gy ys both.2⟩
theorem nms_rise : nms.Pairwise (fun a b => decide (a.cps.toList < b.cps.toList) = true) := by decide +kernel
theorem names_rise {fs : List Fd} (h : (names fs).Sublist nms) {i : Nat} {a b : Fd} (ha : fs[i]? = some a) (hb : fs[i + 1]? = some b) : decide (a.1.cps.toList < b.1.cps.toList) = true := by
  have q := nms_rise.sublist h
  have n1 : (names fs)[i]? = some a.1 := by
    show (fs.map fun f => f.1)[i]? = _
    rw [List.getElem?_map, ha]
    rfl
  have n2 : (names fs)[i + 1]? = some b.1 := by
    show (fs.map fun f => f.1)[i + 1]? = _
    rw [List.getElem?_map, hb]
    rfl
  obtain ⟨h1, e1⟩ := List.getElem?_eq_some_iff.mp n1
  obtain ⟨h2, e2⟩ := List.getElem?_eq_some_iff.mp n2
  have z := List.pairwise_iff_getElem.mp q i (i + 1) h1 h2 (Nat.lt_succ_self i)
  rw [e1, e2] at z
  exact z
/-- behind its first item -/
theorem cut_one (ws : List V) : cutV ws (some 1) none = ws.drop 1 := by
  unfold cutV
  rw [HT.sIx_none, show (some (1 : Int)) = some ((1 : Nat) : Int) from rfl, HT.sIx_nat]
  cases ws with
  | nil => rfl
  | cons x xs =>
    have e : min 1 (x :: xs).length = 1 := by rw [List.length_cons]; omega
    rw [e]
    show xs.take ((x :: xs).length - 1) = xs
    rw [List.length_cons, Nat.add_sub_cancel, List.take_length]
theorem cut_whole {ws : List V} (h : HT.sIx ws.length 0 (some 1) = 0 ∧ HT.sIx ws.length ws.length none = ws.length) : ws = [] := by
  have h := h.1
  rw [show (some (1 : Int)) = some ((1 : Nat) : Int) from rfl, HT.sIx_nat] at h
  cases ws with
  | nil => rfl
  | cons x xs =>
    rw [List.length_cons] at h
    omega
/-- a pair's names rise -/
def teRise (K : PySem.W.Frag) : TE := tOp (fun x y H Q => ∃ i j, x = .str i ∧ y = .str j ∧ Q (.bl (decide (i.cps.toList < j.cps.toList))) H) (tOp (rIxT K) (tVar 2) (tC (.int 0))) (tOp (rIxT K) (tVar 3) (tC (.int 0)))
section
variable {P : Program} {w : World} {K : PySem.W.Frag} {mg : Str → Option Value} {base : Heap} {f : Addr} {fd : FuncData}
theorem scAreFields : FnScope ["thing", "field", "one", "other"] ["thing"] (defScope sAreFields) := ⟨rfl, rfl, rfl, by decide +kernel, rfl, by decide +kernel, by decide +kernel⟩
def spAreFields (K : PySem.W.Frag) : Sp := fun vs H Q _ => ∃ (a : Addr) (ws : List V) (fs : List Fd), vs = [.ref a] ∧ SqT K H a ws ∧ DpAll K H ws (encs fs) ∧ (names fs).Sublist nms ∧ ∀ H', Same H H' → Q (.bl true) H'
theorem in_marks (m : Bool) : inV (.str (markS m)) [.str "must", .str "may"] = true := by cases m <;> decide +kernel
theorem ok_areFields (F : Fun K "are_fields" "are_fields" sAreFields f fd) (G : Glb K mg) (CN : Cal P w K mg base 1 "is_name" ["thing"] spIsName) : FnOk P w K mg base CX0 2 f fd ["thing"] (spAreFields K) := by
  obtain ⟨g, gd, GN, bN, kN, mN⟩ := CN
  refine F.ok scAreFields (fun vs H Q E h => ?_) (fun cdv A outer s H vs Q E hr h => ?_)
  · obtain ⟨a, ws, fs, rfl, _⟩ := h
    rfl
  obtain ⟨a, ws, fs, rfl, hq, hd, hn, q⟩ := h
  have nd := scAreFields.nd
  refine ⟨_, pss_cons (ps_if (pt_not (pt_val (pe_callB call_isi rfl G.isinst PyProof.Rows.boot_isinstance (pa_cons (pv 0) (pa_cons (pe_bltn rfl G.tuple PyProof.Rows.boot_tuple (v := .ty "tuple") rfl) pa_nil))))) (pss_one (ps_ret pe_bl)) pss_nil)
    (pss_cons (ps_for PassesOwn.never rfl (pi_tup (pv 0)) (pg_name (i := 1) nd rfl (Or.inl rfl))
      (pss_cons (ps_if (PW.pt (pw_or (pt_not (pt_val (pe_callB call_isi rfl G.isinst PyProof.Rows.boot_isinstance (pa_cons (pv 1) (pa_cons (pe_bltn rfl G.tuple PyProof.Rows.boot_tuple (v := .ty "tuple") rfl) pa_nil)))))
        (pw_or (pt_cmpR op_ne (pe_callB call_len_seq rfl G.len PySem.boot_len (pa_cons (pv 1) pa_nil)) pe_int (nomark _))
          (pw_or1 (pt_not (pt_val (pe_call GN hr rfl mN kN bN .nil pass0 (pa_cons (pe_ix ix_tup (pv 1) pe_int (fun _ _ => rfl)) pa_nil)))))))) (pss_one (ps_ret pe_bl)) pss_nil)
      (pss_one (ps_if (PW.pt (pw_or (pt_cmpR op_notIn_seq (pe_ix ix_tup (pv 1) pe_int (fun _ _ => rfl)) (pe_tup (pa_cons pe_str (pa_cons pe_str pa_nil))) rfl)
          (pw_or1 (pt_not (pt_val (pe_callB call_isi rfl G.isinst PyProof.Rows.boot_isinstance (pa_cons (pe_ix ix_tup (pv 1) pe_int (fun _ _ => rfl)) (pa_cons (pe_bltn rfl G.tuple PyProof.Rows.boot_tuple (v := .ty "tuple") rfl) pa_nil)))))))) (pss_one (ps_ret pe_bl)) pss_nil))))
    (pss_one (ps_ret (pe_callB (cr_all rfl) rfl G.all (by decide +kernel) (pa_cons (pe_lc (own := [("one", 2), ("other", 3)]) (g := gTup K 2 (gCons (gName 2) (gCons (gName 3) gNil))) (tt := tYes) (te := teRise K) rfl nd
      (RZ.pi_zipA rfl G.zip (pa_cons (pv 0) (pa_cons (pe_slice sl_tupA (pv 0) (po_some pe_int) po_none) pa_nil)))
      (blkOk_by (own := [("one", 2), ("other", 3)]) (N := ["thing", "field", "one", "other"]) (sc := defScope sAreFields) (by decide +kernel))
      (fun _ _ _ _ _ => pg_tup rfl (pgs_cons (pg_name (i := 2) nd rfl (Or.inl rfl)) (pgs_cons (pg_name (i := 3) nd rfl (Or.inl rfl)) pgs_nil)))
      (fun _ _ _ _ _ => pts_nil) (fun _ _ _ _ _ => pe_cmpR op_lt_str (pe_ix ix_tup (pv 2) pe_int (fun _ _ => rfl)) (pe_ix ix_tup (pv 3) pe_int (fun _ _ => rfl)) (nomark _))) pa_nil))))), ?_⟩
  have hl : ws.length = fs.length := (dps_len hd).trans (encs_len fs)
  have h3 : fs.length ≤ 3 := fields_few hn
  refine ⟨_, rfl, _, _, .type "tuple", .type "tuple", true, rfl, ClsV.ty "tuple", tyx_tup hq, kit_same, true, rfl, iteF ?_⟩
  refine ⟨_, rfl, a, rfl, ⟨_, hq⟩, for_it (walk_tup (K := K) (a := a) (xs := ws)) (fun i σ H2 => Same H H2 ∧ ∃ o1 o2 o3, σ = [some (.ref a), o1, o2, o3]) ⟨Same.refl H, none, none, none, rfl⟩ (fun i σ H2 _ ⟨s2, _⟩ => (same_tk s2).seqT hq) ?_ ?_⟩
  · rintro i y σ H2 H3 hi ⟨s2, o1, o2, o3, rfl⟩ ⟨rfl, hy⟩
    obtain ⟨n, m, k, t, z, e1, rfl, e3, e4⟩ := flds_at hd hy
    have hm : n ∈ nms := hn.subset (List.mem_map.mpr ⟨_, List.mem_of_getElem? e1, rfl⟩)
    have e5 := (same_tk s2).seqT e3
    obtain ⟨p, zs, rfl, z1, z2⟩ := (e4.tk (same_tk s2)).open
    refine ⟨_, rfl, _, _, .type "tuple", .type "tuple", true, rfl, ClsV.ty "tuple", tyx_tup e5, kit_same, true, rfl, iteF ?_⟩
    refine ⟨_, rfl, t, _, rfl, .inr e5, rfl, _, rfl, iteNS rfl ?_⟩
    refine ⟨_, rfl, t, _, _, _, rfl, rfl, e5, atI_nat (j := 0) rfl, n, rfl, hm, fun H4 s4 => ⟨true, rfl, iteF ?_⟩⟩
    have e6 := (same_tk s4).seqT e5
    refine ⟨_, rfl, t, _, _, _, rfl, rfl, e6, atI_nat (j := 1) rfl, (by show 2 ≤ sizeLine; decide), fun u hu => ?_⟩
    refine ⟨u, _, rfl, .inr sqT_upd, rfl, rfl, _, rfl, ?_⟩
    rw [in_marks]
    refine iteF ?_
    have t5 := tk_new (o := .tup [.str "must", .str "may"]) hu
    refine ⟨_, rfl, t, _, _, _, rfl, rfl, t5.seqT e6, atI_nat (j := 2) rfl, _, _, .type "tuple", .type "tuple", true, rfl, ClsV.ty "tuple", tyx_tup (t5.seqT ((same_tk s4).seqT z1)), kit_same, true, rfl, iteF ?_⟩
    exact ⟨(s2.trans s4).trans (same_new hu _), _, _, _, rfl⟩
  · rintro σ H2 ⟨s2, o1, o2, o3, rfl⟩
    have q2 := (same_tk s2).seqT hq
    have main : ∀ (b : Addr) (H3 : Hp), Same H2 H3 → SqT K H3 b (ws.drop 1) → ∀ D, H3 D = none → ∃ W : Nat → Nat → Hp → Prop, (∃ m, W 0 m (upd H3 D (.lst []))) ∧ ∀ i m H, W i m H → _ := fun b H3 s3 hb D hD =>
      lc_it (σ := [some (.ref a), o1, o2, o3]) (vs := [2, 3]) (g := gTup K 2 (gCons (gName 2) (gCons (gName 3) gNil))) (tt := tYes)
        (te := teRise K)
        (Qd := fun H4 => rAll K [.ref D] H4 Q)
        (walk_zipT (K := K) (a := a) (b := b) (xs := ws) (ys := ws.drop 1) rfl) (fun i H4 => Same H3 H4 ∧ H4 D = some (.lst ((List.replicate i true).map V.bl))) ⟨same_new hD _, upd_same⟩ (fun i H4 _ ⟨s4, _⟩ => ⟨(same_tk (s3.trans s4)).seqT q2, (same_tk s4).seqT hb⟩)
        (by
          rintro i y H4 H5 hi ⟨s4, e4⟩ ⟨T, x1, x2, rfl, hT, rfl, y1, y2⟩
          have y2 : ws[i + 1]? = some x2 := by
            have y2 : (ws.drop 1)[i]? = some x2 := y2
            rw [List.getElem?_drop, Nat.add_comm] at y2
            exact y2
          obtain ⟨n1, m1, k1, t1, z1, f1, rfl, g1, _⟩ := flds_at hd y1
          obtain ⟨n2, m2, k2, t2, z2, f2, rfl, g2, _⟩ := flds_at hd y2
          have tk5 := (same_tk ((s2.trans s3).trans s4)).trans (tk_new (o := .tup [.ref t1, .ref t2]) hT)
          refine ⟨T, _, rfl, sqT_upd, rfl, _, _, rfl, _, _, rfl, rfl, rfl, yesT ?_⟩
          refine ⟨_, rfl, t1, _, _, _, rfl, rfl, tk5.seqT g1, atI_nat (j := 0) rfl, _, rfl, t2, _, _, _, rfl, rfl, tk5.seqT g2, atI_nat (j := 0) rfl, _, _, rfl, rfl, ?_⟩
          rw [names_rise hn f1 f2]
          have hDT : D ≠ T := ne_of_none e4 hT
          refine ⟨_, by rw [upd_ne hDT]; exact e4, small100 (by rw [List.length_map, List.length_replicate]; have hi : i < min ws.length (ws.drop 1).length := hi; omega), same_at (s4.trans (same_new hT _)) hD, ?_⟩
          rw [upd_same, List.replicate_succ', List.map_append]
          rfl)
        (fun H4 ⟨s4, e4⟩ => by
          refine ⟨D, _, rfl, SqL.of e4, ?_⟩
          have e : ∀ n, (List.replicate n true).all id = true := fun n => by
            rw [List.all_eq_true]
            intro b hb
            rw [(List.mem_replicate.mp hb).2]
            rfl
          rw [e]
          exact q H4 ((s2.trans s3).trans s4))
    refine ⟨_, rfl, _, rfl, _, rfl, a, _, rfl, q2, fun hw => ?_, fun hw p hp => ?_⟩
    · have e := cut_whole hw
      exact ⟨a, a, ws, ws.drop 1, rfl, .inr ⟨q2, by rw [e] at q2 ⊢; exact q2, fun D hD => main a _ (Same.refl _) (by rw [e] at q2 ⊢; exact q2) D hD⟩⟩
    · exact ⟨a, p, ws, ws.drop 1, rfl, .inr ⟨(tk_new hp).seqT q2, by rw [← cut_one]; exact sqT_upd, fun D hD => main p _ (same_new hp _) (by rw [← cut_one]; exact sqT_upd) D hD⟩⟩
end
end CW

namespace CW
open PySem L2
section
variable {P : Program} {w : World} {K : PySem.W.Frag} {mg : Str → Option Value} {base : Heap} {f : Addr} {fd : FuncData}
/-! ### is_headed -/
theorem scIsHeaded : FnScope ["kind"] ["kind"] (defScope sIsHeaded) := ⟨rfl, rfl, rfl, by decide +kernel, rfl, by decide +kernel, by decide +kernel⟩
def spIsHeaded (K : PySem.W.Frag) : Sp := fun vs H Q _ => ∃ (v : V) (k : Kd) (n : Nat), vs = [v] ∧ KAt K H v k ∧ Wf (n + 1) k ∧ ∀ H', Same H H' → Q (.bl true) H'
theorem in_plain : ∀ i : Fin 6, inV (.str (tagS i)) [.str "any", .str "num", .str "truth"] = decide (i.val < 3) := by decide +kernel
theorem dec_head (k : Kd) (j : Fin 6) : decide (V.str (headS k) = V.str (tagS j)) = decide (tag k = j) := by
  have hd : ∀ i j : Fin 6, decide (V.str (tagS i) = V.str (tagS j)) = decide (i = j) := by decide +kernel
  rw [headS_tag, hd]
theorem small40 {n : Nat} (h : n ≤ 40) : n ≤ sizeLine := Nat.le_of_lt (small100 (by omega))
theorem in_truths (b : Bool) : inV (.bl b) [.bl true, .bl false] = true := by cases b <;> decide +kernel
theorem ok_isHeaded (F : Fun K "is_headed" "is_headed" sIsHeaded f fd) (G : Glb K mg) (CA : Cal P w K mg base 2 "are_fields" ["thing"] (spAreFields K)) : FnOk P w K mg base CX0 3 f fd ["kind"] (spIsHeaded K) := by
  obtain ⟨g, gd, GA, bA, kA, mA⟩ := CA
  obtain ⟨aP, mP, tP⟩ := G.plain
  refine F.ok scIsHeaded (fun vs H Q E h => ?_) (fun cdv A outer s H vs Q E hr h => ?_)
  · obtain ⟨v, k, n, rfl, _⟩ := h
    rfl
  obtain ⟨v, k, n, rfl, hv, hw, q⟩ := h
  have nd := scIsHeaded.nd
  refine ⟨_, pss_cons (ps_if (pt_cmpR op_eq (pe_callB call_len_seq rfl G.len PySem.boot_len (pa_cons (pv 0) pa_nil)) pe_int (nomark _)) (pss_one (ps_ret pe_bl)) pss_nil)
    (pss_cons (ps_if (pt_cmpR op_in_seq (pe_ix ix_tup (pv 0) pe_int (fun _ _ => rfl)) (pe_glob rfl mP (v := .ref aP) rfl) rfl)
      (pss_one (ps_ret (pe_cmpR op_eq (pe_callB call_len_seq rfl G.len PySem.boot_len (pa_cons (pv 0) pa_nil)) pe_int (nomark _)))) pss_nil)
    (pss_cons (ps_if (pt_cmpR op_eq (pe_ix ix_tup (pv 0) pe_int (fun _ _ => rfl)) pe_str (nomark _))
      (pss_one (ps_ret (pe_and (pe_cmpR op_eq (pe_callB call_len_seq rfl G.len PySem.boot_len (pa_cons (pv 0) pa_nil)) pe_int (nomark _))
        (pe_and (pe_callB call_isi rfl G.isinst PyProof.Rows.boot_isinstance (pa_cons (pe_ix ix_tup (pv 0) pe_int (fun _ _ => rfl)) (pa_cons (pe_bltn rfl G.tuple PyProof.Rows.boot_tuple (v := .ty "tuple") rfl) pa_nil)))
          (pe_one (pe_callB call_isi rfl G.isinst PyProof.Rows.boot_isinstance (pa_cons (pe_ix ix_tup (pv 0) pe_int (fun _ _ => rfl)) (pa_cons (pe_bltn rfl G.tuple PyProof.Rows.boot_tuple (v := .ty "tuple") rfl) pa_nil)))))))) pss_nil)
    (pss_cons (ps_if (pt_cmpR op_eq (pe_ix ix_tup (pv 0) pe_int (fun _ _ => rfl)) pe_str (nomark _))
      (pss_one (ps_ret (pe_and (pe_cmpR op_eq (pe_callB call_len_seq rfl G.len PySem.boot_len (pa_cons (pv 0) pa_nil)) pe_int (nomark _))
          (pe_one (pe_callB call_isi rfl G.isinst PyProof.Rows.boot_isinstance (pa_cons (pe_ix ix_tup (pv 0) pe_int (fun _ _ => rfl)) (pa_cons (pe_bltn rfl G.tuple PyProof.Rows.boot_tuple (v := .ty "tuple") rfl) pa_nil))))))) pss_nil)
    (pss_one (ps_ret (pe_and (pe_cmpR op_eq (pe_ix ix_tup (pv 0) pe_int (fun _ _ => rfl)) pe_str (nomark _))
      (pe_and (pe_cmpR op_eq (pe_callB call_len_seq rfl G.len PySem.boot_len (pa_cons (pv 0) pa_nil)) pe_int (nomark _))
      (pe_and (pe_call GA hr rfl mA kA bA .nil pass0 (pa_cons (pe_ix ix_tup (pv 0) pe_int (fun _ _ => rfl)) pa_nil))
      (pe_one (pe_cmpR op_in_seq (pe_ix ix_tup (pv 0) pe_int (fun _ _ => rfl)) (pe_tup (pa_cons pe_bl (pa_cons pe_bl pa_nil))) rfl)))))))))), ?_⟩
  obtain ⟨p, vs, rfl, q1, q2⟩ := hv.open
  have no0 : decide (V.int (((V.str (headS k) :: vs).length : Nat) : Int) = V.int 0) = false := decide_eq_false fun z => by
    have z := V.int.inj z
    rw [List.length_cons] at z
    omega
  refine ⟨_, rfl, p, _, rfl, .inr q1, rfl, _, rfl, ?_⟩
  rw [no0]
  refine iteF ?_
  refine ⟨_, rfl, p, _, _, _, rfl, rfl, q1, atI_nat (j := 0) rfl, aP, _, rfl, .inr (tP _), rfl, rfl, _, rfl, ?_⟩
  rw [show inV (V.str (headS k)) [.str "any", .str "num", .str "truth"] = decide ((tag k).val < 3) by rw [headS_tag, in_plain]]
  have plain : rest k = [] → ∀ H', Same H H' → (tRet (tOp rEq (tCB (fun xs H Q => ∃ p ys, xs = [.ref p] ∧ (SqL K H p ys ∨ SqT K H p ys) ∧ Q (.int ys.length) H) (tCons (tVar 0) tNil)) (tC (.int 1)))) { nx := fun _ H' => Q .non H', rt := Q } (L2.start ["kind"] [V.ref p]) H := fun e H' s' => by
    rw [e] at q2
    obtain rfl := dps_nil q2
    exact ⟨_, rfl, p, _, rfl, .inr q1, rfl, q H (Same.refl H)⟩
  cases k with
  | any => exact iteT (plain rfl H (Same.refl H))
  | num => exact iteT (plain rfl H (Same.refl H))
  | truth => exact iteT (plain rfl H (Same.refl H))
  | to a b =>
    obtain ⟨p', x, y, e, r1, r2, r3⟩ := hv.to
    cases e
    obtain ⟨px, xs, rfl, x1, _⟩ := r2.open
    obtain ⟨py, ys, rfl, y1, _⟩ := r3.open
    refine iteF ?_
    refine ⟨_, rfl, p, _, _, _, rfl, rfl, r1, atI_nat (j := 0) rfl, rfl, _, rfl, ?_⟩
    refine iteT ?_
    refine ⟨_, rfl, p, _, rfl, .inr r1, rfl, true, rfl, iteT ?_⟩
    refine ⟨_, rfl, p, _, _, _, rfl, rfl, r1, atI_nat (j := 1) rfl, _, _, .type "tuple", .type "tuple", true, rfl, ClsV.ty "tuple", tyx_tup x1, kit_same, true, rfl, iteT ?_⟩
    exact ⟨_, rfl, p, _, _, _, rfl, rfl, r1, atI_nat (j := 2) rfl, _, _, .type "tuple", .type "tuple", true, rfl, ClsV.ty "tuple", tyx_tup y1, kit_same, q H (Same.refl H)⟩
  | box a =>
    obtain ⟨p', x, e, r1, r2⟩ := hv.box
    cases e
    obtain ⟨px, xs, rfl, x1, _⟩ := r2.open
    refine iteF ?_
    refine ⟨_, rfl, p, _, _, _, rfl, rfl, r1, atI_nat (j := 0) rfl, rfl, _, rfl, ?_⟩
    refine iteF ?_
    refine ⟨_, rfl, p, _, _, _, rfl, rfl, r1, atI_nat (j := 0) rfl, rfl, _, rfl, ?_⟩
    refine iteT ?_
    refine ⟨_, rfl, p, _, rfl, .inr r1, rfl, true, rfl, iteT ?_⟩
    exact ⟨_, rfl, p, _, _, _, rfl, rfl, r1, atI_nat (j := 1) rfl, _, _, .type "tuple", .type "tuple", true, rfl, ClsV.ty "tuple", tyx_tup x1, kit_same, q H (Same.refl H)⟩
  | row fs op =>
    obtain ⟨p', a, ws, e, r1, r2, r3⟩ := hv.row
    cases e
    have hw : (names fs).Sublist nms ∧ ∀ f ∈ fs, Wf n f.2.2 := hw
    refine iteF ?_
    refine ⟨_, rfl, p, _, _, _, rfl, rfl, r1, atI_nat (j := 0) rfl, rfl, _, rfl, ?_⟩
    refine iteF ?_
    refine ⟨_, rfl, p, _, _, _, rfl, rfl, r1, atI_nat (j := 0) rfl, rfl, _, rfl, ?_⟩
    refine iteF ?_
    refine ⟨_, rfl, p, _, _, _, rfl, rfl, r1, atI_nat (j := 0) rfl, rfl, true, rfl, iteT ?_⟩
    refine ⟨_, rfl, p, _, rfl, .inr r1, rfl, true, rfl, iteT ?_⟩
    refine ⟨_, rfl, p, _, _, _, rfl, rfl, r1, atI_nat (j := 1) rfl, a, ws, fs, rfl, r2, r3, hw.1, fun H4 s4 => ⟨true, rfl, iteT ?_⟩⟩
    refine ⟨_, rfl, p, _, _, _, rfl, rfl, (same_tk s4).seqT r1, atI_nat (j := 2) rfl, (by show 2 ≤ sizeLine; decide), fun u hu => ?_⟩
    refine ⟨u, _, rfl, .inr sqT_upd, rfl, rfl, ?_⟩
    rw [in_truths]
    exact q _ (s4.trans (same_new hu _))
/-! ### counted -/
theorem scCounted : FnScope ["kind", "deep", "step", "inner"] ["kind", "deep"] (defScope sCounted) := ⟨rfl, rfl, rfl, by decide +kernel, rfl, by decide +kernel, by decide +kernel⟩
def spCounted (K : PySem.W.Frag) (n : Nat) : Sp := fun vs H Q _ => ∃ (v : V) (k : Kd) (d : Int), vs = [v, .int d] ∧ KAt K H v k ∧ Wf n k ∧ d + (n : Int) ≤ 9 ∧ ∀ H', Same H H' → Q (.int ((sz n k : Nat) : Int)) H'
theorem sum_cast {α : Type} (f : α → Nat) : ∀ l : List α, (l.map fun x => ((f x : Nat) : Int)).sum = (((l.map f).sum : Nat) : Int)
  | [] => rfl
  | x :: l => by
    have ih := sum_cast f l
    rw [List.map_cons, List.sum_cons, List.map_cons, List.sum_cons, ih]
    omega
theorem ok_counted {n : Nat} (F : Fun K "counted" "counted" sCounted f fd) (G : Glb K mg) (CH : Cal P w K mg base 3 "is_headed" ["kind"] (spIsHeaded K)) (CW : Cal P w K mg base 1 "kinds_within" ["kind"] (spWithin K))
    (CC : Cal P w K mg base (n + 3) "counted" ["kind", "deep"] (spCounted K n)) : FnOk P w K mg base CX0 (n + 4) f fd ["kind", "deep"] (spCounted K (n + 1)) := by
  obtain ⟨gH, dH, GH, bH, kH, mH⟩ := CH
  obtain ⟨gW, dW, GW, bW, kW, mW⟩ := CW
  obtain ⟨gC, dC, GC, bC, kC, mC⟩ := CC
  obtain ⟨tD, mD⟩ := G.deep
  refine F.ok scCounted (fun vs H Q E h => ?_) (fun cdv A outer s H vs Q E hr h => ?_)
  · obtain ⟨v, k, d, rfl, _⟩ := h
    rfl
  obtain ⟨v, k, d, rfl, hv, hw, hd, q⟩ := h
  have nd := scCounted.nd
  have hr3 : Room 3 _ := hr.mono (by omega)
  have hr1 : Room 1 _ := hr.mono (by omega)
  refine ⟨_, pss_cons (ps_if (PW.pt (pw_or (pt_cmpR op_gt (pv 1) (pe_glob rfl mD (v := .int 8) ⟨_, rfl⟩) (nomark _)) (pw_or1 (pt_not (pt_val (pe_call GH hr3 rfl mH kH bH .nil pass0 (pa_cons (pv 0) pa_nil))))))) (pss_one ps_never) pss_nil)
    (pss_one (ps_ret (pe_op op_add pe_int (pe_callB (cr_sum rfl) rfl G.sum PyProof.Rows.boot_sum (pa_cons (pe_lc (own := [("step", 2), ("inner", 3)]) (g := gTup K 2 (gCons (gName 2) (gCons (gName 3) gNil))) (tt := tYes) rfl nd
      (pi_list (pe_call GW hr1 rfl mW kW bW .nil pass0 (pa_cons (pv 0) pa_nil))) (blkOk_by (own := [("step", 2), ("inner", 3)]) (N := ["kind", "deep", "step", "inner"]) (sc := defScope sCounted) (by decide +kernel))
      (fun _ _ _ _ _ => pg_tup rfl (pgs_cons (pg_name (i := 2) nd rfl (Or.inl rfl)) (pgs_cons (pg_name (i := 3) nd rfl (Or.inl rfl)) pgs_nil)))
      (fun _ _ _ _ _ => pts_nil) (fun _ _ _ _ _ => pe_call GC hr rfl mC kC bC .nil pass0 (pa_cons (pv 3) (pa_cons (pe_op op_add (pv 1) pe_int) pa_nil)))) pa_nil))))), ?_⟩
  refine ⟨_, rfl, _, _, rfl, rfl, _, rfl, ?_⟩
  rw [decide_eq_false (show ¬ (8 : Int) < d by omega)]
  refine iteF ?_
  refine ⟨_, rfl, v, k, n, rfl, hv, hw, fun H1 s1 => ⟨true, rfl, iteF ?_⟩⟩
  refine ⟨_, rfl, v, k, rfl, hv.tk (same_tk s1), subs_few hw, fun p ws H2 s2 e2 d2 => ?_⟩
  have hl := subs_len d2
  have h3 := subs_few hw
  refine ⟨p, rfl, ⟨ws, SqL.of e2⟩, fun D hD => lc_it (walk_list (K := K) (a := p) (xs := ws)) (fun i H3 => Same H2 H3 ∧ H3 D = some (.lst ((((subs k).take i).map fun x => ((sz n x.2 : Nat) : Int)).map V.int))) ⟨same_new hD _, upd_same⟩ (fun i H3 _ ⟨s3, _⟩ => s3.seq (SqL.of e2)) ?_ ?_⟩
  · rintro i y H3 H4 hi ⟨s3, e3⟩ ⟨rfl, hy⟩
    obtain ⟨x, c, t, z, f1, rfl, f2, f3⟩ := subs_at d2 hy
    have tk3 := same_tk s3
    refine ⟨t, _, rfl, tk3.seqT f2, rfl, _, _, rfl, _, _, rfl, rfl, rfl, yesT ?_⟩
    refine ⟨_, rfl, _, rfl, _, _, rfl, rfl, z, c, _, rfl, f3.tk tk3, subs_wf hw _ (List.mem_of_getElem? f1), by push_cast at hd ⊢; omega, fun H5 s5 => ?_⟩
    refine ⟨_, s5 _ _ e3, small100 (by rw [List.length_map, List.length_map, List.length_take]; omega), same_at (s3.trans s5) hD, ?_⟩
    rw [upd_same, take_one f1, List.map_append, List.map_append]
    rfl
  · rintro H3 ⟨s3, e3⟩
    rw [hl, List.take_length] at e3
    refine ⟨D, _, rfl, SqL.of e3, _, _, rfl, rfl, ?_⟩
    have e : (1 : Int) + ((subs k).map fun x => ((sz n x.2 : Nat) : Int)).sum = ((sz (n + 1) k : Nat) : Int) := by
      rw [sum_cast]
      show (1 : Int) + (((subs k).map fun x => sz n x.2).sum : Nat) = ((1 + ((subs k).map fun x => sz n x.2).sum : Nat) : Int)
      omega
    have z := q H3 ((s1.trans s2).trans s3)
    rw [← e] at z
    exact z
/-! ### parts_in -/
theorem scParts : FnScope ["kind", "found"] ["kind"] (defScope sParts) := ⟨rfl, rfl, rfl, by decide +kernel, rfl, by decide +kernel, by decide +kernel⟩
def spParts (K : PySem.W.Frag) : Sp := fun vs H Q _ => ∃ (v : V) (k : Kd), vs = [v] ∧ KAt K H v k ∧ Wf 4 k ∧ ∀ r H', Same H H' → Q r H'
theorem ok_parts (F : Fun K "parts_in" "parts_in" sParts f fd) (G : Glb K mg) (CC : Cal P w K mg base 7 "counted" ["kind", "deep"] (spCounted K 4)) : FnOk P w K mg base CX0 8 f fd ["kind"] (spParts K) := by
  obtain ⟨gC, dC, GC, bC, kC, mC⟩ := CC
  obtain ⟨tM, mM⟩ := G.parts
  refine F.ok scParts (fun vs H Q E h => ?_) (fun cdv A outer s H vs Q E hr h => ?_)
  · obtain ⟨v, k, rfl, _⟩ := h
    rfl
  obtain ⟨v, k, rfl, hv, hw, q⟩ := h
  have nd := scParts.nd
  refine ⟨_, pss_cons (ps_set (i := 1) nd rfl (Or.inl rfl) (pe_call GC hr rfl mC kC bC .nil pass0 (pa_cons (pv 0) (pa_cons pe_int pa_nil))))
    (pss_cons (ps_if (pt_cmpR op_gt (pv 1) (pe_glob rfl mM (v := .int 40) ⟨_, rfl⟩) (nomark _)) (pss_one ps_never) pss_nil)
    (pss_one (ps_ret (pv 1)))), ?_⟩
  refine ⟨_, rfl, v, k, 1, rfl, hv, hw, by decide, fun H1 s1 => ?_⟩
  have hz : sz 4 k ≤ 40 := sz_most 4 k hw
  refine ⟨_, rfl, _, _, rfl, rfl, _, rfl, ?_⟩
  rw [decide_eq_false (show ¬ (40 : Int) < ((sz 4 k : Nat) : Int) by omega)]
  refine iteF ?_
  exact ⟨_, rfl, q _ H1 s1⟩
/-! ### known_within, is_known -/
theorem scKnown : FnScope ["kind", "step", "inner"] ["kind"] (defScope sKnownIn) := ⟨rfl, rfl, rfl, by decide +kernel, rfl, by decide +kernel, by decide +kernel⟩
def spKnown (K : PySem.W.Frag) (n : Nat) : Sp := fun vs H Q _ => ∃ (v : V) (k : Kd), vs = [v] ∧ KAt K H v k ∧ Wf n k ∧ ∀ H', Same H H' → Q (.bl (known n k)) H'
theorem ok_known {n : Nat} (F : Fun K "known_within" "known_within" sKnownIn f fd) (G : Glb K mg) (CW : Cal P w K mg base 1 "kinds_within" ["kind"] (spWithin K))
    (CK : Cal P w K mg base (n + 1) "known_within" ["kind"] (spKnown K n)) : FnOk P w K mg base CX0 (n + 2) f fd ["kind"] (spKnown K (n + 1)) := by
  obtain ⟨gW, dW, GW, bW, kW, mW⟩ := CW
  obtain ⟨gC, dC, GC, bC, kC, mC⟩ := CK
  refine F.ok scKnown (fun vs H Q E h => ?_) (fun cdv A outer s H vs Q E hr h => ?_)
  · obtain ⟨v, k, rfl, _⟩ := h
    rfl
  obtain ⟨v, k, rfl, hv, hw, q⟩ := h
  have nd := scKnown.nd
  have hr1 : Room 1 _ := hr.mono (by omega)
  refine ⟨_, pss_cons (ps_if (PW.pt (pw_or (pt_cmpR op_eq (pe_ix ix_tup (pv 0) pe_int (fun _ _ => rfl)) pe_str (nomark _))
      (pw_or1 (PW.pt (pw_and (pt_cmpR op_eq (pe_ix ix_tup (pv 0) pe_int (fun _ _ => rfl)) pe_str (nomark _)) (pw_and1 (pt_val (pe_ix ix_tup (pv 0) pe_int (fun _ _ => rfl))))))))) (pss_one (ps_ret pe_bl)) pss_nil)
    (pss_one (ps_ret (pe_callB (cr_all rfl) rfl G.all (by decide +kernel) (pa_cons (pe_lc (own := [("step", 1), ("inner", 2)]) (g := gTup K 2 (gCons (gName 1) (gCons (gName 2) gNil))) (tt := tYes) rfl nd
      (pi_list (pe_call GW hr1 rfl mW kW bW .nil pass0 (pa_cons (pv 0) pa_nil))) (blkOk_by (own := [("step", 1), ("inner", 2)]) (N := ["kind", "step", "inner"]) (sc := defScope sKnownIn) (by decide +kernel))
      (fun _ _ _ _ _ => pg_tup rfl (pgs_cons (pg_name (i := 1) nd rfl (Or.inl rfl)) (pgs_cons (pg_name (i := 2) nd rfl (Or.inl rfl)) pgs_nil)))
      (fun _ _ _ _ _ => pts_nil) (fun _ _ _ _ _ => pe_call GC hr rfl mC kC bC .nil pass0 (pa_cons (pv 2) pa_nil))) pa_nil)))), ?_⟩
  obtain ⟨p, vs, e, q1, q2⟩ := hv.open
  have ke := known_eq n k
  have stop : (isAny k || isOpen k) = true → ∀ H', Same H H' → Q (.bl false) H' := fun c H' s' => by
    have z := q H' s'
    rw [ke, if_pos c] at z
    exact z
  have go : (isAny k || isOpen k) = false → (tRet (tCB (rAll K) (tCons (tLc (iList K (tCall (spWithin K) [] E0 (tCons (tVar 0) tNil))) (gTup K 2 (gCons (gName 1) (gCons (gName 2) gNil))) tYes (tCall (spKnown K n) [] E0 (tCons (tVar 2) tNil)) [1, 2]) tNil))) { nx := fun _ H' => Q .non H', rt := Q } (L2.start ["kind", "step", "inner"] [v]) H := fun c => by
    rw [if_neg (by rw [c]; exact Bool.false_ne_true)] at ke
    refine ⟨_, rfl, v, k, rfl, hv, subs_few hw, fun p ws H2 s2 e2 d2 => ?_⟩
    have hl := subs_len d2
    have h3 := subs_few hw
    refine ⟨p, rfl, ⟨ws, SqL.of e2⟩, fun D hD => lc_it (walk_list (K := K) (a := p) (xs := ws)) (fun i H3 => Same H2 H3 ∧ H3 D = some (.lst ((((subs k).take i).map fun x => known n x.2).map V.bl))) ⟨same_new hD _, upd_same⟩ (fun i H3 _ ⟨s3, _⟩ => s3.seq (SqL.of e2)) ?_ ?_⟩
    · rintro i y H3 H4 hi ⟨s3, e3⟩ ⟨rfl, hy⟩
      obtain ⟨x, c, t, z, f1, rfl, f2, f3⟩ := subs_at d2 hy
      have tk3 := same_tk s3
      refine ⟨t, _, rfl, tk3.seqT f2, rfl, _, _, rfl, _, _, rfl, rfl, rfl, yesT ?_⟩
      refine ⟨_, rfl, z, c, rfl, f3.tk tk3, subs_wf hw _ (List.mem_of_getElem? f1), fun H5 s5 => ?_⟩
      refine ⟨_, s5 _ _ e3, small100 (by rw [List.length_map, List.length_map, List.length_take]; omega), same_at (s3.trans s5) hD, ?_⟩
      rw [upd_same, take_one f1, List.map_append, List.map_append]
      rfl
    · rintro H3 ⟨s3, e3⟩
      rw [hl, List.take_length] at e3
      refine ⟨D, _, rfl, SqL.of e3, ?_⟩
      have z := q H3 (s2.trans s3)
      rw [ke] at z
      rw [List.all_map]
      exact z
  subst e
  refine ⟨_, rfl, p, _, _, _, rfl, rfl, q1, atI_nat (j := 0) rfl, rfl, _, rfl, ?_⟩
  rw [show decide (V.str (headS k) = V.str "any") = decide (tag k = 0) from dec_head k 0]
  cases k with
  | any => exact iteT (iteT (stop rfl H (Same.refl H)))
  | row fs op =>
    obtain ⟨p', a, ws, e, r1, r2, r3⟩ := hv.row
    cases e
    refine iteF ?_
    refine ⟨_, rfl, p, _, _, _, rfl, rfl, r1, atI_nat (j := 0) rfl, rfl, _, rfl, iteT ?_⟩
    refine ⟨_, rfl, p, _, _, _, rfl, rfl, r1, atI_nat (j := 2) rfl, op, rfl, ?_⟩
    cases op with
    | true => exact iteT (stop rfl H (Same.refl H))
    | false => exact iteF (go rfl)
  | num => exact iteF ⟨_, rfl, p, _, _, _, rfl, rfl, q1, atI_nat (j := 0) rfl, rfl, _, rfl, iteF (iteF (go rfl))⟩
  | truth => exact iteF ⟨_, rfl, p, _, _, _, rfl, rfl, q1, atI_nat (j := 0) rfl, rfl, _, rfl, iteF (iteF (go rfl))⟩
  | to a b => exact iteF ⟨_, rfl, p, _, _, _, rfl, rfl, q1, atI_nat (j := 0) rfl, rfl, _, rfl, iteF (iteF (go rfl))⟩
  | box a => exact iteF ⟨_, rfl, p, _, _, _, rfl, rfl, q1, atI_nat (j := 0) rfl, rfl, _, rfl, iteF (iteF (go rfl))⟩
theorem scIsKnown : FnScope ["kind"] ["kind"] (defScope sIsKnown) := ⟨rfl, rfl, rfl, by decide +kernel, rfl, by decide +kernel, by decide +kernel⟩
theorem ok_isKnown (F : Fun K "is_known" "is_known" sIsKnown f fd) (CP : Cal P w K mg base 8 "parts_in" ["kind"] (spParts K)) (CK : Cal P w K mg base 5 "known_within" ["kind"] (spKnown K 4)) : FnOk P w K mg base CX0 9 f fd ["kind"] (spKnown K 4) := by
  obtain ⟨gP, dP, GP, bP, kP, mP⟩ := CP
  obtain ⟨gK, dK, GK, bK, kK, mK⟩ := CK
  refine F.ok scIsKnown (fun vs H Q E h => ?_) (fun cdv A outer s H vs Q E hr h => ?_)
  · obtain ⟨v, k, rfl, _⟩ := h
    rfl
  obtain ⟨v, k, rfl, hv, hw, q⟩ := h
  have hr5 : Room 5 _ := hr.mono (by omega)
  refine ⟨_, pss_cons (ps_expr (pe_call GP hr rfl mP kP bP .nil pass0 (pa_cons (pv 0) pa_nil))) (pss_one (ps_ret (pe_call GK hr5 rfl mK kK bK .nil pass0 (pa_cons (pv 0) pa_nil)))), ?_⟩
  refine ⟨_, rfl, v, k, rfl, hv, hw, fun r H1 s1 => ?_⟩
  exact ⟨_, rfl, v, k, rfl, hv.tk (same_tk s1), hw, fun H2 s2 => q H2 (s1.trans s2)⟩
end
end CW

namespace CW
open PySem L2
theorem but_new {st : Addr} {H0 H : Hp} {D : Addr} {o : HO} (h : But st H0 H) (n : H0 D = none) : But st H0 (upd H D o) := fun b u nb q => by
  rw [upd_ne (ne_of_none q n)]
  exact h b u nb q
/-- what is new behind H1 was new ahead of it -/
theorem But.fresh {st : Addr} {H H1 : Hp} {p : Addr} (b : But st H H1) (hs : StAt st H) (n : H1 p = none) (hs1 : StAt st H1) : H p = none := by
  cases q : H p with
  | none => rfl
  | some o =>
    have np : p ≠ st := hs1.ne n
    rw [b p o np q] at n
    cases n
section
variable {P : Program} {w : World} {K : PySem.W.Frag} {mg : Str → Option Value} {base : Heap} {f : Addr} {fd : FuncData}
theorem scKind : FnScope ["state", "deep", "way", "fields", "name", "pick"] ["state", "deep"] (defScope sKind) := ⟨rfl, rfl, rfl, by decide +kernel, rfl, by decide +kernel, by decide +kernel⟩
def spKind (K : PySem.W.Frag) (n : Nat) : Sp := fun vs H Q _ => ∃ (st : Addr) (d : Int), vs = [.ref st, .int d] ∧ StAt st H ∧ d.toNat < n ∧
  ∀ v k H', But st H H' → StAt st H' → KAt K H' v k → Wf (d.toNat + 1) k → Q v H'
theorem third {w : Int} (h0 : 0 ≤ w) (h1 : w < 6) : w / 2 = 0 ∨ w / 2 = 1 ∨ w / 2 = 2 := by omega
theorem nms_get {i : Nat} {y : V} (h : ([.str "a", .str "b", .str "cc"] : List V)[i]? = some y) : ∃ x, y = .str x ∧ nms[i]? = some x := by
  match i, h with
  | 0, h => exact ⟨"a", (Option.some.inj h).symm, rfl⟩
  | 1, h => exact ⟨"b", (Option.some.inj h).symm, rfl⟩
  | 2, h => exact ⟨"cc", (Option.some.inj h).symm, rfl⟩
theorem names_snoc {fs : List Fd} {l : List Str} {i : Nat} {x : Str} {m : Bool} {k : Kd} (h : (names fs).Sublist (l.take i)) (e : l[i]? = some x) : (names (fs ++ [(x, m, k)])).Sublist (l.take (i + 1)) := by
  have q : names (fs ++ [(x, m, k)]) = names fs ++ [x] := by
    unfold names
    rw [List.map_append]
    rfl
  rw [q, take_one e]
  exact h.append (List.Sublist.refl _)
theorem names_skip {fs : List Fd} {l : List Str} {i : Nat} (h : (names fs).Sublist (l.take i)) : (names fs).Sublist (l.take (i + 1)) := h.trans (List.take_sublist_take_left (Nat.le_succ i))
theorem ok_kind {n : Nat} (F : Fun K "_law_kind" "_law_kind" sKind f fd) (G : Glb K mg) (CT : Cal P w K mg base 1 "_law_take" ["state", "many"] spTake) (CC : Cal P w K mg base (n + 1) "_law_kind" ["state", "deep"] (spKind K n)) :
    FnOk P w K mg base CX0 (n + 2) f fd ["state", "deep"] (spKind K (n + 1)) := by
  obtain ⟨gT, dT, GT, bT, kT, mT⟩ := CT
  obtain ⟨gC, dC, GC, bC, kC, mC⟩ := CC
  refine F.ok scKind (fun vs H Q E h => ?_) (fun cdv A outer s H vs Q E hr h => ?_)
  · obtain ⟨st, d, rfl, _⟩ := h
    rfl
  obtain ⟨st, d, rfl, hs, hd, q⟩ := h
  have nd := scKind.nd
  have hr1 : Room 1 _ := hr.mono (by omega)
  refine ⟨_, pss_cons (ps_set (i := 2) nd rfl (Or.inl rfl) (pe_call GT hr1 rfl mT kT bT .nil pass0 (pa_cons (pv 0) (pa_cons (pe_op op_add pe_int (pe_op op_mul pe_int (pe_callTy call_int1 rfl G.int PyProof.Rows.boot_int (pa_cons (pe_cmpR op_gt (pv 1) pe_int (nomark _)) pa_nil)))) pa_nil))))
    (pss_cons (ps_if (pt_cmpR op_lt (pv 2) pe_int (nomark _))
      (pss_one (ps_ret (pe_ix ix_list (pe_lst (pa_cons (pe_tup (pa_cons pe_str pa_nil)) (pa_cons (pe_tup (pa_cons pe_str pa_nil)) (pa_cons (pe_tup (pa_cons pe_str pa_nil)) pa_nil)))) (pe_op op_fdiv (pv 2) pe_int) (fun _ _ => rfl)))) pss_nil)
    (pss_cons (ps_if (pt_cmpR op_eq (pv 2) pe_int (nomark _))
      (pss_one (ps_ret (pe_tup (pa_cons pe_str (pa_cons (pe_call GC hr rfl mC kC bC .nil pass0 (pa_cons (pv 0) (pa_cons (pe_op op_sub (pv 1) pe_int) pa_nil))) (pa_cons (pe_call GC hr rfl mC kC bC .nil pass0 (pa_cons (pv 0) (pa_cons (pe_op op_sub (pv 1) pe_int) pa_nil))) pa_nil)))))) pss_nil)
    (pss_cons (ps_if (pt_cmpR op_eq (pv 2) pe_int (nomark _))
      (pss_one (ps_ret (pe_tup (pa_cons pe_str (pa_cons (pe_call GC hr rfl mC kC bC .nil pass0 (pa_cons (pv 0) (pa_cons (pe_op op_sub (pv 1) pe_int) pa_nil))) pa_nil))))) pss_nil)
    (pss_cons (ps_set (i := 3) nd rfl (Or.inl rfl) (pe_lst pa_nil))
    (pss_cons (ps_for PassesOwn.never rfl (pi_list (pe_lst (pa_cons pe_str (pa_cons pe_str (pa_cons pe_str pa_nil))))) (pg_name (i := 4) nd rfl (Or.inl rfl))
      (pss_cons (ps_set (i := 5) nd rfl (Or.inl rfl) (pe_call GT hr1 rfl mT kT bT .nil pass0 (pa_cons (pv 0) (pa_cons pe_int pa_nil))))
      (pss_one (ps_if (pt_cmpR op_gt (pv 5) pe_int (nomark _))
        (pss_one (ps_expr (pe_bm PySem.F.plainAttrs_list PySem.F.slot_list_append PySem.F.type_list_append mt_append (pv 3) (pa_cons (pe_tup (pa_cons (pv 4) (pa_cons (pe_ix ix_list (pe_lst (pa_cons pe_str (pa_cons pe_str pa_nil))) (pe_op op_sub (pv 5) pe_int) (fun _ _ => rfl))
          (pa_cons (pe_call GC hr rfl mC kC bC .nil pass0 (pa_cons (pv 0) (pa_cons (pe_op op_sub (pv 1) pe_int) pa_nil))) pa_nil)))) pa_nil)))) pss_nil))))
    (pss_one (ps_ret (pe_tup (pa_cons pe_str (pa_cons (pe_callTy call_tuple_of rfl G.tuple PyProof.Rows.boot_tuple (pa_cons (pv 3) pa_nil)) (pa_cons (pe_cmpR op_eq (pe_call GT hr1 rfl mT kT bT .nil pass0 (pa_cons (pv 0) (pa_cons pe_int pa_nil))) pe_int (nomark _)) pa_nil))))))))))), ?_⟩
  refine ⟨_, rfl, _, rfl, _, _, rfl, rfl, .inr ⟨_, rfl, _, _, rfl, rfl, .inl ⟨by decide, by decide⟩, _, _, rfl, rfl, ?_⟩⟩
  have many : (0 : Int) < 6 + 4 * (if decide (0 < d) = true then 1 else 0) ∧ (6 : Int) + 4 * (if decide (0 < d) = true then 1 else 0) < 1000 := by split <;> omega
  refine ⟨st, _, rfl, hs, many.1, many.2, fun r H1 r0 r1 b1 s1 => ?_⟩
  refine ⟨_, rfl, _, _, rfl, rfl, _, rfl, ?_⟩
  refine ite2 (fun c => ?_) (fun c => ?_)
  · have c : r < 6 := of_decide_eq_true c
    refine ⟨(by show 1 ≤ sizeLine; decide), fun u1 h1 => ⟨(by show 1 ≤ sizeLine; decide), fun u2 h2 => ⟨(by show 1 ≤ sizeLine; decide), fun u3 h3 => ⟨(by show 3 ≤ sizeLine; decide), fun l hl => ?_⟩⟩⟩⟩
    have bb : But st H1 _ := same_but (((same_new h1 (.tup [.str "any"])).trans (same_new h2 (.tup [.str "num"]))).trans ((same_new h3 (.tup [.str "truth"])).trans (same_new hl (.lst [.ref u1, .ref u2, .ref u3]))))
    have ss := s1.same (((same_new h1 (.tup [.str "any"])).trans (same_new h2 (.tup [.str "num"]))).trans ((same_new h3 (.tup [.str "truth"])).trans (same_new hl (.lst [.ref u1, .ref u2, .ref u3]))))
    refine ⟨_, rfl, _, _, rfl, rfl, ⟨by decide, by decide⟩, l, ?_⟩
    rcases third r0 c with e | e | e
    · refine ⟨_, r / 2, .ref u1, rfl, rfl, SqL.of upd_same, by rw [e]; exact atI_nat (j := 0) rfl, ?_⟩
      exact q _ .any _ (b1.trans bb) ss ((new_plain (k := .any) rfl).tk (same_tk ((same_new h2 _).trans ((same_new h3 _).trans (same_new hl _))))) trivial
    · refine ⟨_, r / 2, .ref u2, rfl, rfl, SqL.of upd_same, by rw [e]; exact atI_nat (j := 1) rfl, ?_⟩
      exact q _ .num _ (b1.trans bb) ss ((new_plain (k := .num) rfl).tk (same_tk ((same_new h3 _).trans (same_new hl _)))) trivial
    · refine ⟨_, r / 2, .ref u3, rfl, rfl, SqL.of upd_same, by rw [e]; exact atI_nat (j := 2) rfl, ?_⟩
      exact q _ .truth _ (b1.trans bb) ss ((new_plain (k := .truth) rfl).tk (same_tk (same_new hl _))) trivial
  have c : ¬ r < 6 := of_decide_eq_false (Bool.eq_false_iff.mpr c)
  have dpos : 0 < d := by
    by_cases h : 0 < d
    · exact h
    · rw [decide_eq_false h] at r1
      exact absurd r1 (by simpa using c)
  have dn : (d - 1).toNat < n := by omega
  have de : (d - 1).toNat + 1 = d.toNat := by omega
  refine ⟨_, rfl, rfl, _, rfl, ?_⟩
  refine ite2 (fun c2 => ?_) (fun c2 => ?_)
  · refine ⟨_, rfl, _, rfl, _, _, rfl, rfl, st, d - 1, rfl, s1, dn, fun x a H2 b2 s2 ka wa => ?_⟩
    refine ⟨_, rfl, _, rfl, _, _, rfl, rfl, st, d - 1, rfl, s2, dn, fun y b H3 b3 s3 kb wb => ?_⟩
    refine ⟨(by show 3 ≤ sizeLine; decide), fun p hp => ?_⟩
    rw [de] at wa wb
    have tp := tk_new (o := .tup [.str "to", x, y]) hp
    refine q _ (.to a b) _ ((b1.trans (b2.trans b3)).trans (same_but (same_new hp _))) (s3.same (same_new hp _)) ?_ ⟨wa, wb⟩
    exact .close (k := .to a b) sqT_upd (.cons ((ka.tk (s2.tk b3)).tk tp) (.cons (kb.tk tp) .nil))
  refine ⟨_, rfl, rfl, _, rfl, ?_⟩
  refine ite2 (fun c3 => ?_) (fun c3 => ?_)
  · refine ⟨_, rfl, _, rfl, _, _, rfl, rfl, st, d - 1, rfl, s1, dn, fun x a H2 b2 s2 ka wa => ?_⟩
    refine ⟨(by show 2 ≤ sizeLine; decide), fun p hp => ?_⟩
    rw [de] at wa
    have tp := tk_new (o := .tup [.str "box", x]) hp
    refine q _ (.box a) _ ((b1.trans b2).trans (same_but (same_new hp _))) (s2.same (same_new hp _)) ?_ wa
    exact .close (k := .box a) sqT_upd (.cons (ka.tk tp) .nil)
  refine ⟨(by show 0 ≤ sizeLine; decide), fun D hD => ?_⟩
  refine ⟨(by show 3 ≤ sizeLine; decide), fun L hL => ⟨L, rfl, ⟨_, SqL.of upd_same⟩, ?_⟩⟩
  have hDL : D ≠ L := ne_of_none upd_same hL
  have b0 : But st H1 (upd (upd H1 D (.lst [])) L (.lst [.str "a", .str "b", .str "cc"])) := same_but ((same_new hD _).trans (same_new hL _))
  have s0 : StAt st (upd (upd H1 D (.lst [])) L (.lst [.str "a", .str "b", .str "cc"])) := s1.same ((same_new hD _).trans (same_new hL _))
  have nD : D ≠ st := s1.ne hD
  have nL : L ≠ st := (s1.same (same_new hD (.lst []))).ne hL
  have fD : H D = none := b1.fresh hs hD s1
  refine for_it (walk_list (K := K) (a := L) (xs := [.str "a", .str "b", .str "cc"])) (fun i σ H2 => ∃ (acc : List V) (fs : List Fd) (o4 o5 : Option V), σ = [some (.ref st), some (.int d), some (.int r), some (.ref D), o4, o5] ∧ But st H H2 ∧ StAt st H2 ∧
      H2 L = some (.lst [.str "a", .str "b", .str "cc"]) ∧ H2 D = some (.lst acc) ∧ DpAll K H2 acc (encs fs) ∧ (names fs).Sublist (nms.take i) ∧ (∀ g ∈ fs, Wf d.toNat g.2.2) ∧ acc.length ≤ i)
    ⟨[], [], none, none, rfl, b1.trans b0, s0, upd_same, by rw [upd_ne hDL, upd_same], .nil, List.Sublist.refl _, fun _ z => (nomatch z), Nat.le_refl _⟩ (fun i σ H2 _ ⟨_, _, _, _, _, _, _, e, _⟩ => SqL.of e) ?_ ?_
  · rintro i y σ H2 H3 hi ⟨acc, fs, o4, o5, rfl, b2, s2, eL, eD, dd, sub, wf, la⟩ ⟨rfl, hy⟩
    obtain ⟨x, rfl, hx⟩ := nms_get hy
    refine ⟨_, rfl, st, 4, rfl, s2, by decide, by decide, fun pick H4 p0 p1 b4 s4 => ?_⟩
    have tk4 := s2.tk b4
    have eL4 := b4 L _ nL eL
    have eD4 := b4 D _ nD eD
    refine ⟨_, rfl, _, _, rfl, rfl, _, rfl, ?_⟩
    refine ite2 (fun cp => ?_) (fun cp => ?_)
    · have cp : 1 < pick := of_decide_eq_true cp
      refine ⟨_, rfl, .inl ⟨rfl, _, SqL.of eD4⟩, _, rfl, (by show 2 ≤ sizeLine; decide), fun u hu => ?_⟩
      have tku := tk_new (o := .lst [.str "must", .str "may"]) hu
      have su := same_new hu (.lst [.str "must", .str "may"])
      refine ⟨_, rfl, _, _, rfl, rfl, u, _, pick - 2, .str (markS (decide (pick = 2))), rfl, rfl, SqL.of upd_same, ?_, ?_⟩
      · by_cases h : pick = 2
        · rw [h]
          exact atI_nat (j := 0) rfl
        · have h : pick = 3 := by omega
          rw [h]
          exact atI_nat (j := 1) rfl
      refine ⟨_, rfl, _, rfl, _, _, rfl, rfl, st, d - 1, rfl, s4.same su, dn, fun z k H5 b5 s5 kz wz => ?_⟩
      rw [de] at wz
      refine ⟨(by show 3 ≤ sizeLine; decide), fun t ht => ?_⟩
      have eD5 : H5 D = some (.lst acc) := b5 D _ nD (su _ _ eD4)
      have eL5 : H5 L = _ := b5 L _ nL (su _ _ eL4)
      have nDt : D ≠ t := ne_of_none eD5 ht
      have nLt : L ≠ t := ne_of_none eL5 ht
      have tkt := tk_new (o := .tup [.str x, .str (markS (decide (pick = 2))), z]) ht
      have eDt : (upd H5 t (.tup [.str x, .str (markS (decide (pick = 2))), z])) D = some (.lst acc) := by rw [upd_ne nDt]; exact eD5
      have tkD := tk_lst (ys := acc ++ [.ref t]) eDt
      refine ⟨D, acc, _, rfl, rfl, eDt, small100 (by have : i < 3 := hi; omega), ?_⟩
      have st5 : StAt st (upd H5 t (.tup [.str x, .str (markS (decide (pick = 2))), z])) := s5.same (same_new ht _)
      have all1 : But st H (upd H5 t (.tup [.str x, .str (markS (decide (pick = 2))), z])) := (((b2.trans b4).trans (same_but su)).trans b5).trans (same_but (same_new ht _))
      refine ⟨acc ++ [.ref t], fs ++ [(x, decide (pick = 2), k)], _, _, rfl, but_new all1 fD, ?_, ?_, upd_same, ?_, names_snoc sub hx, ?_, ?_⟩
      · obtain ⟨a1, a2, a3⟩ := st5
        exact ⟨a1, a2, by rw [upd_ne nD.symm]; exact a3⟩
      · rw [upd_ne hDL.symm, upd_ne nLt]
        exact eL5
      · have tk5 := (tk4.trans tku).trans ((s4.same su).tk b5)
        exact flds_snoc (flds_tk dd ((tk5.trans tkt).trans tkD)) (tkD.seqT sqT_upd) ((kz.tk tkt).tk tkD)
      · intro g hg
        rcases List.mem_append.mp hg with z | z
        · exact wf g z
        · rw [List.mem_singleton.mp z]
          exact wz
      · rw [List.length_append, List.length_singleton]
        omega
    · exact ⟨acc, fs, _, _, rfl, b2.trans b4, s4, eL4, eD4, flds_tk dd tk4, names_skip sub, wf, by omega⟩
  · rintro σ H2 ⟨acc, fs, o4, o5, rfl, b2, s2, eL, eD, dd, sub, wf, la⟩
    refine ⟨_, rfl, D, acc, rfl, .inl ⟨SqL.of eD, fun a ha => ?_⟩⟩
    have tka := tk_new (o := .tup acc) ha
    refine ⟨_, rfl, st, 3, rfl, s2.same (same_new ha _), by decide, by decide, fun z H4 z0 z1 b4 s4 => ?_⟩
    refine ⟨rfl, (by show 3 ≤ sizeLine; decide), fun p hp => ?_⟩
    have tk4 := (s2.same (same_new ha (.tup acc))).tk b4
    have tp := tk_new (o := .tup [.str "row", .ref a, .bl (decide (V.int z = V.int 0))]) hp
    refine q _ (.row fs (decide (V.int z = V.int 0))) _ (((b2.trans (same_but (same_new ha _))).trans b4).trans (same_but (same_new hp _))) (s4.same (same_new hp _)) ?_ ?_
    · refine .close (k := .row fs (decide (V.int z = V.int 0))) sqT_upd ?_
      exact .cons (.tup (tp.seqT (tk4.seqT sqT_upd)) (flds_tk dd ((tka.trans tk4).trans tp))) (.cons (.bl _) .nil)
    · exact ⟨sub, wf⟩
end
end CW

namespace CW
open PySem L2 PySem.Spec PyProof.Rows
theorem paired_one {α β : Type} {R : α → β → Prop} {l : List α} {b : β} (h : Paired R l [b]) : ∃ a, l = [a] ∧ R a b := by
  cases h with
  | cons r t =>
    cases t
    exact ⟨_, rfl, r⟩
theorem paired_two {α β : Type} {R : α → β → Prop} {l : List α} {b c : β} (h : Paired R l [b, c]) : ∃ a d, l = [a, d] ∧ R a b ∧ R d c := by
  cases h with
  | cons r t =>
    obtain ⟨d, rfl, q⟩ := paired_one t
    exact ⟨_, d, rfl, r, q⟩
/-- the kinds straight within, where there are no names -/
def kids : Kd → List Kd
  | .to a b => [a, b]
  | .box a => [a]
  | _ => []
def isPair (k : Kd) : Bool := decide (tag k = 3) || decide (tag k = 4)
theorem rest_kids {k : Kd} (h : isPair k = true) : rest k = (kids k).map enc := by
  cases k <;> first | rfl | (exact absurd h (by simp [isPair, tag]))
theorem kids_wf {n : Nat} {k : Kd} (h : Wf (n + 1) k) : ∀ c ∈ kids k, Wf n c := by
  intro c hc
  cases k with
  | to a b =>
    have h : Wf n a ∧ Wf n b := h
    rcases List.mem_cons.mp hc with e | e
    · rw [e]; exact h.1
    · rw [List.mem_singleton.mp e]; exact h.2
  | box a =>
    rw [List.mem_singleton.mp hc]
    exact h
  | any => cases hc
  | num => cases hc
  | truth => cases hc
  | row fs o => cases hc
theorem kids_few (k : Kd) : (kids k).length ≤ 2 := by cases k <;> simp [kids]
theorem in_pairs : ∀ i : Fin 6, inV (.str (tagS i)) [.str "to", .str "box"] = (decide (i = 3) || decide (i = 4)) := by decide +kernel
section
variable {K : PySem.W.Frag} {H : Hp}
theorem kids_at : ∀ {ks : List Kd} {vs : List V} {i : Nat} {x : V}, DpAll K H vs (ks.map enc) → vs[i]? = some x → ∃ k, ks[i]? = some k ∧ KAt K H x k
  | [], vs, i, x, h, e => by
    obtain rfl := dps_nil (show DpAll K H vs [] from h)
    cases e
  | k :: ks, vs, i, x, h, e => by
    obtain ⟨z, zs, rfl, h1, h2⟩ := dps_cons (show DpAll K H vs (enc k :: ks.map enc) from h)
    cases i with
    | zero =>
      have e : z = x := Option.some.inj e
      subst e
      exact ⟨k, rfl, h1⟩
    | succ i => exact kids_at (ks := ks) (vs := zs) (i := i) h2 e
theorem tup_kids : ∀ ks : List Kd, tupDs (ks.map enc) = true
  | [] => by simp only [List.map_nil, tupDs]
  | k :: ks => by simp only [List.map_cons, tupDs, tup_enc, tup_kids ks, Bool.and_self]
theorem kids_tk {H' : Hp} {ks : List Kd} {vs : List V} (h : DpAll K H vs (ks.map enc)) (e : Tk H H') : DpAll K H' vs (ks.map enc) := dps_tk e _ _ (tup_kids ks) h
theorem kids_snoc {ks : List Kd} {vs : List V} {k : Kd} {x : V} (h : DpAll K H vs (ks.map enc)) (a : KAt K H x k) : DpAll K H (vs ++ [x]) ((ks ++ [k]).map enc) := by
  rw [List.map_append]
  exact dps_append h (.cons a .nil)
theorem kids_len {ks : List Kd} {vs : List V} (h : DpAll K H vs (ks.map enc)) : vs.length = ks.length := (dps_len h).trans (List.length_map _)
end
theorem but_st {st D : Addr} {H : Hp} {o : HO} (h : StAt st H) (n : D ≠ st) : StAt st (upd H D o) := by
  obtain ⟨a, b, e⟩ := h
  exact ⟨a, b, by rw [upd_ne n.symm]; exact e⟩
/-- a comprehension over a tuple of kinds that hands each to a def which keeps all but the state -/
theorem kids_comp {K : PySem.W.Frag} {st : Addr} {σ : L2.St} {H1 : Hp} {a D : Addr} {ws : List V} {cs : List Kd} {R : Kd → Kd → Prop} {te : TE} {Qd : Hp → Prop} {v : Nat} (hv : v < σ.length) (s1 : StAt st H1) (ha : SqT K H1 a ws) (hw : DpAll K H1 ws (cs.map enc)) (hD : H1 D = none) (hl : cs.length ≤ 50)
    (ht : ∀ (i : Nat) (x : V) (c : Kd) (H2 : Hp) (Q : V → Hp → Prop), cs[i]? = some c → StAt st H2 → KAt K H2 x c → (∀ y c' H3, But st H2 H3 → StAt st H3 → KAt K H3 y c' → R c' c → Q y H3) → te ((wipe σ [v]).set v (some x)) H2 Q)
    (hd : ∀ H2 acc ks, But st H1 H2 → StAt st H2 → H2 D = some (.lst acc) → DpAll K H2 acc (ks.map enc) → Paired R ks cs → Qd H2) :
    ∃ W : Nat → Nat → Hp → Prop, (∃ m, W 0 m (upd H1 D (.lst []))) ∧ ∀ i m H, W i m H →
      ((Itt K a).stop i H ∧ Qd H) ∨ ((Itt K a).go i H ∧ ∃ Nx : Hp → Prop, (∀ H', Nx H' → ∃ m', m' < m ∧ W (i + 1) m' H') ∧ ∀ x H', (Itt K a).yld i H x H' → gName v x (wipe σ [v]) H' fun σ2 H2 => wipe σ2 [v] = wipe σ [v] ∧ tYes σ2 H2 fun b H3 =>
        if b = true then te σ2 H3 fun y H4 => ∃ acc, H4 D = some (.lst acc) ∧ acc.length < sizeLine ∧ Nx (upd H4 D (.lst (acc ++ [y]))) else Nx H3) := by
  have nD : D ≠ st := s1.ne hD
  have hlen := kids_len hw
  refine lc_it (walk_tup (K := K) (a := a) (xs := ws)) (fun i H2 => ∃ acc ks, But st H1 H2 ∧ StAt st H2 ∧ H2 D = some (.lst acc) ∧ DpAll K H2 acc (ks.map enc) ∧ Paired R ks (cs.take i))
    ⟨[], [], same_but (same_new hD _), s1.same (same_new hD _), upd_same, .nil, .nil⟩ (fun i H2 _ ⟨acc, ks, b2, s2, e2, _⟩ => (s1.tk b2).seqT ha) ?_ ?_
  · rintro i x H2 H3 hi ⟨acc, ks, b2, s2, e2, dd, pp⟩ ⟨rfl, hx⟩
    obtain ⟨c, hc, kc⟩ := kids_at hw hx
    refine ⟨?_, yesT ?_⟩
    · show ((wipe σ [v]).set v (some x)).set v none = wipe σ [v]
      show ((σ.set v none).set v (some x)).set v none = σ.set v none
      rw [List.set_set, List.set_set]
    refine ht i x c H3 _ hc s2 (kc.tk (s1.tk b2)) fun y c' H4 b4 s4 ky r => ?_
    have e4 := b4 D _ nD e2
    have la : acc.length = ks.length := kids_len dd
    have lk : ks.length ≤ i := by
      have q := pp.length
      rw [List.length_take] at q
      omega
    refine ⟨acc, e4, small100 (by have hi : i < ws.length := hi; omega), acc ++ [y], ks ++ [c'], but_new (b2.trans b4) hD, but_st s4 nD, upd_same, ?_, ?_⟩
    · exact kids_snoc (kids_tk dd ((s2.tk b4).trans (tk_lst e4))) (ky.tk (tk_lst e4))
    · rw [take_one hc]
      exact pp.snoc r
  · rintro H2 ⟨acc, ks, b2, s2, e2, dd, pp⟩
    rw [hlen, List.take_length] at pp
    exact hd H2 acc ks b2 s2 e2 dd pp
/-- whether the forgotten row is open -/
def teOpen (K : PySem.W.Frag) : TE := tOrV (tOp (rIxT K) (tVar 1) (tC (.int 2))) (tOp rEq (tCall spTake [] E0 (tCons (tVar 0) (tCons (tC (.int 3)) tNil))) (tC (.int 0)))
theorem isOpen_way {K : PySem.W.Frag} {st p a : Addr} {op : Bool} {σ : L2.St} {H0 Hc : Hp} {M : V → Hp → Prop} (h0 : σ[0]? = some (some (.ref st)) ∧ σ[1]? = some (some (.ref p))) (r1 : SqT K Hc p [.str "row", .ref a, .bl op]) (s2 : StAt st Hc) (b : But st H0 Hc)
    (h : ∀ io H2, (op = true → io = true) → But st H0 H2 → StAt st H2 → Tk Hc H2 → M (.bl io) H2) : teOpen K σ Hc M := by
  refine ⟨_, h0.2, p, _, _, _, rfl, rfl, r1, atI_nat (j := 2) rfl, op, rfl, ?_⟩
  cases op with
  | true => exact iteT (h true Hc (fun _ => rfl) b s2 (Tk.refl _))
  | false =>
    refine iteF ?_
    refine ⟨_, h0.1, st, 3, rfl, s2, by decide, by decide, fun r H2 r0 r1 b2 s3 => ⟨rfl, ?_⟩⟩
    exact h _ H2 (fun z => nomatch z) (b.trans b2) s3 (s2.tk b2)
/-- whether a field is left in -/
def ttKeep : TT := tOr (tNot (tB (tVar 3))) (tTest (tOp (rI0 fun i j => .bl (decide (j < i))) (tCall spTake [] E0 (tCons (tVar 0) (tCons (tC (.int 4)) tNil))) (tC (.int 0))))
theorem keep_way {st : Addr} {io : Bool} {σ : L2.St} {H4 : Hp} {M : Bool → Hp → Prop} (h0 : σ[0]? = some (some (.ref st))) (h3 : σ[3]? = some (some (.bl io))) (s4 : StAt st H4)
    (h : ∀ b H5, (b = false → io = true) → But st H4 H5 → StAt st H5 → M b H5) : ttKeep σ H4 M := by
  refine ⟨_, h3, io, rfl, ?_⟩
  cases io with
  | false => exact iteT (h true H4 (fun z => nomatch z) (But.refl _ _) s4)
  | true =>
    refine iteF ?_
    refine ⟨_, h0, st, 4, rfl, s4, by decide, by decide, fun r H5 r0 r1 b5 s5 => ⟨_, _, rfl, rfl, _, rfl, ?_⟩⟩
    exact h _ H5 (fun _ => rfl) b5 s5
theorem pairK {K : PySem.W.Frag} {H : Hp} {p : Addr} {h : Str} {acc : List V} {k' : Kd} (q : SqT K H p (.str h :: acc)) (e : headS k' = h) (l : DpAll K H acc (rest k')) : KAt K H (.ref p) k' := .close (by rw [e]; exact q) l
section
variable {P : Program} {w : World} {K : PySem.W.Frag} {mg : Str → Option Value} {base : Heap} {f : Addr} {fd : FuncData}
theorem scForgot : FnScope ["state", "kind", "way", "is_open", "fields", "name", "mark", "inner"] ["state", "kind"] (defScope sForgot) := ⟨rfl, rfl, rfl, by decide +kernel, rfl, by decide +kernel, by decide +kernel⟩
def spForgot (K : PySem.W.Frag) (n : Nat) : Sp := fun vs H Q _ => ∃ (st : Addr) (v : V) (k : Kd), vs = [.ref st, v] ∧ StAt st H ∧ KAt K H v k ∧ Wf n k ∧
  ∀ v' k' H', But st H H' → StAt st H' → KAt K H' v' k' → Wf n k' → lek n k' k = true → Q v' H'
theorem ok_forgot {n : Nat} (F : Fun K "_law_forgot" "_law_forgot" sForgot f fd) (G : Glb K mg) (CT : Cal P w K mg base 1 "_law_take" ["state", "many"] spTake) (CC : Cal P w K mg base (n + 1) "_law_forgot" ["state", "kind"] (spForgot K n)) :
    FnOk P w K mg base CX0 (n + 2) f fd ["state", "kind"] (spForgot K (n + 1)) := by
  obtain ⟨gT, dT, GT, bT, kT, mT⟩ := CT
  obtain ⟨gC, dC, GC, bC, kC, mC⟩ := CC
  refine F.ok scForgot (fun vs H Q E h => ?_) (fun cdv A outer s H vs Q E hr h => ?_)
  · obtain ⟨st, v, k, rfl, _⟩ := h
    rfl
  obtain ⟨st, v, k, rfl, hs, hv, hw, q⟩ := h
  have nd := scForgot.nd
  have hr1 : Room 1 _ := hr.mono (by omega)
  refine ⟨_, pss_cons (ps_set (i := 2) nd rfl (Or.inl rfl) (pe_call GT hr1 rfl mT kT bT .nil pass0 (pa_cons (pv 0) (pa_cons pe_int pa_nil))))
    (pss_cons (ps_if (pt_cmpR op_eq (pv 2) pe_int (nomark _)) (pss_one (ps_ret (pe_tup (pa_cons pe_str pa_nil)))) pss_nil)
    (pss_cons (ps_if (pt_cmpR op_in_seq (pe_ix ix_tup (pv 1) pe_int (fun _ _ => rfl)) (pe_lst (pa_cons pe_str (pa_cons pe_str pa_nil))) rfl)
      (pss_one (ps_ret (pe_op op_catA (pe_tup (pa_cons (pe_ix ix_tup (pv 1) pe_int (fun _ _ => rfl)) pa_nil)) (pe_callTy call_tuple_of rfl G.tuple PyProof.Rows.boot_tuple (pa_cons
        (pe_lc (own := [("inner", 7)]) (g := gName 7) (tt := tYes) rfl nd (pi_tup (pe_slice sl_tupA (pv 1) (po_some pe_int) po_none)) (blkOk_by (own := [("inner", 7)]) (N := ["state", "kind", "way", "is_open", "fields", "name", "mark", "inner"]) (sc := defScope sForgot) (by decide +kernel))
          (fun _ _ _ _ _ => pg_name (i := 7) nd rfl (Or.inl rfl)) (fun _ _ _ _ _ => pts_nil) (fun _ _ _ _ _ => pe_call GC hr rfl mC kC bC .nil pass0 (pa_cons (pv 0) (pa_cons (pv 7) pa_nil)))) pa_nil))))) pss_nil)
    (pss_cons (ps_if (pt_cmpR op_ne (pe_ix ix_tup (pv 1) pe_int (fun _ _ => rfl)) pe_str (nomark _)) (pss_one (ps_ret (pv 1))) pss_nil)
    (pss_cons (ps_set (i := 3) nd rfl (Or.inl rfl) (pe_or (pe_ix ix_tup (pv 1) pe_int (fun _ _ => rfl)) (pe_one (pe_cmpR op_eq (pe_call GT hr1 rfl mT kT bT .nil pass0 (pa_cons (pv 0) (pa_cons pe_int pa_nil))) pe_int (nomark _)))))
    (pss_cons (ps_set (i := 4) nd rfl (Or.inl rfl) (pe_lst pa_nil))
    (pss_cons (ps_for PassesOwn.never rfl (pi_tup (pe_ix ix_tup (pv 1) pe_int (fun _ _ => rfl)))
        (pg_tup rfl (pgs_cons (pg_name (i := 5) nd rfl (Or.inl rfl)) (pgs_cons (pg_name (i := 6) nd rfl (Or.inl rfl)) (pgs_cons (pg_name (i := 7) nd rfl (Or.inl rfl)) pgs_nil))))
      (pss_one (ps_if (PW.pt (pw_or (pt_not (pt_val (pv 3))) (pw_or1 (pt_cmpR op_gt (pe_call GT hr1 rfl mT kT bT .nil pass0 (pa_cons (pv 0) (pa_cons pe_int pa_nil))) pe_int (nomark _)))))
        (pss_one (ps_expr (pe_bm PySem.F.plainAttrs_list PySem.F.slot_list_append PySem.F.type_list_append mt_append (pv 4) (pa_cons (pe_tup (pa_cons (pv 5) (pa_cons (pv 6) (pa_cons (pe_call GC hr rfl mC kC bC .nil pass0 (pa_cons (pv 0) (pa_cons (pv 7) pa_nil))) pa_nil)))) pa_nil)))) pss_nil)))
    (pss_one (ps_ret (pe_tup (pa_cons pe_str (pa_cons (pe_callTy call_tuple_of rfl G.tuple PyProof.Rows.boot_tuple (pa_cons (pv 4) pa_nil)) (pa_cons (pv 3) pa_nil)))))))))))), ?_⟩
  refine ⟨_, rfl, st, 6, rfl, hs, by decide, by decide, fun r H1 r0 r1 b1 s1 => ?_⟩
  have tk1 := hs.tk b1
  refine ⟨_, rfl, rfl, _, rfl, ?_⟩
  refine ite2 (fun c => ?_) (fun c => ?_)
  · refine ⟨(by show 1 ≤ sizeLine; decide), fun u hu => ?_⟩
    exact q _ .any _ (b1.trans (same_but (same_new hu _))) (s1.same (same_new hu _)) (new_plain (k := .any) rfl) trivial (lek_any n k)
  obtain ⟨p, vs, rfl, q1, q2⟩ := (hv.tk tk1).open
  refine ⟨_, rfl, p, _, _, _, rfl, rfl, q1, atI_nat (j := 0) rfl, (by show 2 ≤ sizeLine; decide), fun u hu => ?_⟩
  have su := same_new hu (.lst [.str "to", .str "box"])
  have tku := same_tk su
  refine ⟨u, _, rfl, .inl (SqL.of upd_same), rfl, rfl, _, rfl, ?_⟩
  rw [show inV (V.str (headS k)) [.str "to", .str "box"] = isPair k by rw [headS_tag, in_pairs]; rfl]
  have s2 := s1.same su
  have hv2 := (hv.tk tk1).tk tku
  have q12 := tku.seqT q1
  cases ep : isPair k with
  | true =>
    refine iteT ?_
    have q2 : DpAll K H1 vs (rest k) := q2
    rw [rest_kids ep] at q2
    refine ⟨_, rfl, p, _, _, _, rfl, rfl, q12, atI_nat (j := 0) rfl, (by show 1 ≤ sizeLine; decide), fun t1 h1 => ?_⟩
    have sa := same_new h1 (.tup [.str (headS k)])
    have q13 := (same_tk sa).seqT q12
    refine ⟨_, rfl, _, rfl, p, _, rfl, q13, fun hw => absurd (cut_whole (ws := V.str (headS k) :: vs) hw) (fun z => nomatch z), fun _ t2 h2 => ?_⟩
    have sb := same_new h2 (.tup (cutV (V.str (headS k) :: vs) (some 1) none))
    have s3 := (s2.same sa).same sb
    have eD : ∀ D, (upd (upd (upd H1 u (.lst [.str "to", .str "box"])) t1 (.tup [.str (headS k)])) t2 (.tup (cutV (V.str (headS k) :: vs) (some 1) none))) D = none → D ≠ t1 := fun D h => fun z => by
      rw [z, upd_ne (ne_of_none upd_same h2), upd_same] at h
      cases h
    refine ⟨t2, rfl, ⟨_, sqT_upd⟩, fun D hD => kids_comp (st := st) (ws := vs) (cs := kids k) (R := fun a b => Wf n a ∧ lek n a b = true) (v := 7) (by show 7 < 8; decide) s3 (by have z := sqT_upd (K := K) (H := upd (upd H1 u (.lst [.str "to", .str "box"])) t1 (.tup [.str (headS k)])) (p := t2) (xs := cutV (V.str (headS k) :: vs) (some 1) none); rw [cut_one] at z ⊢; exact z)
      (kids_tk q2 (tku.trans (same_tk (sa.trans sb)))) hD (by have := kids_few k; omega) ?_ ?_⟩
    · intro i x c H2 Q2 hc hs2 hk hq
      refine ⟨_, rfl, _, rfl, st, x, c, rfl, hs2, hk, kids_wf hw _ (List.mem_of_getElem? hc), fun y c' H3 b3 s3 k3 w3 l3 => ?_⟩
      exact hq y c' H3 b3 s3 k3 ⟨w3, l3⟩
    · intro H4 acc ks b4 s4 e4 d4 p4
      refine ⟨D, acc, rfl, .inl ⟨SqL.of e4, fun t3 h3 => ?_⟩⟩
      have tk4 := s3.tk b4
      have sc := same_new h3 (.tup acc)
      have at1 : SqT K (upd H4 t3 (.tup acc)) t1 [.str (headS k)] := (same_tk sc).seqT (tk4.seqT ((same_tk sb).seqT sqT_upd))
      have la : acc.length = ks.length := kids_len d4
      have lk : ks.length ≤ 2 := by
        have := kids_few k
        have := p4.length
        omega
      have bAll : But st H (upd H4 t3 (.tup acc)) := (((b1.trans (same_but su)).trans (same_but (sa.trans sb))).trans b4).trans (same_but sc)
      have sAll : StAt st (upd H4 t3 (.tup acc)) := s4.same sc
      have fin : ∀ k' : Kd, headS k' = headS k → rest k' = ks.map enc → ks ≠ [] → Wf (n + 1) k' → lek (n + 1) k' k = true → (rCatA K) (.ref t1) (.ref t3) (upd H4 t3 (.tup acc)) Q := fun k' h1 h2 h3 h4 h5 => by
        refine ⟨t1, t3, [.str (headS k)], acc, rfl, rfl, at1, sqT_upd, small40 (by rw [List.length_singleton]; omega), fun z => (nomatch z), fun _ z => ?_, fun _ _ pp hp => ?_⟩
        · rw [z] at la
          exact absurd (List.eq_nil_of_length_eq_zero la.symm) h3
        · refine q _ k' _ (bAll.trans (same_but (same_new hp _))) (sAll.same (same_new hp _)) ?_ h4 h5
          refine pairK (h := headS k) sqT_upd h1 ?_
          rw [h2]
          exact kids_tk d4 ((same_tk sc).trans (tk_new hp))
      cases k with
      | to a b =>
        obtain ⟨a', b', rfl, ⟨wa, la'⟩, ⟨wb, lb'⟩⟩ := paired_two p4
        exact fin (.to a' b') rfl rfl (fun z => nomatch z) ⟨wa, wb⟩ (lek_to2 la' lb')
      | box a =>
        obtain ⟨a', rfl, ⟨wa, la'⟩⟩ := paired_one p4
        exact fin (.box a') rfl rfl (fun z => nomatch z) wa (lek_box2 la')
      | any => exact absurd ep (by simp [isPair, tag])
      | num => exact absurd ep (by simp [isPair, tag])
      | truth => exact absurd ep (by simp [isPair, tag])
      | row fs o => exact absurd ep (by simp [isPair, tag])
  | false =>
    refine iteF ?_
    refine ⟨_, rfl, p, _, _, _, rfl, rfl, q12, atI_nat (j := 0) rfl, rfl, _, rfl, ?_⟩
    rw [show decide (V.str (headS k) = V.str "row") = decide (tag k = 5) from dec_head k 5]
    have plain : (!decide (tag k = 5)) = true → lek (n + 1) k k = true → Q (.ref p) _ := fun _ l => q _ k _ (b1.trans (same_but su)) s2 hv2 hw l
    have hrefl := lek_refl (n + 1) k hw
    cases k with
    | any => exact iteT ⟨_, rfl, plain rfl hrefl⟩
    | num => exact iteT ⟨_, rfl, plain rfl hrefl⟩
    | truth => exact iteT ⟨_, rfl, plain rfl hrefl⟩
    | to a b => cases ep
    | box a => cases ep
    | row fs op =>
      refine iteF ?_
      have hw : (names fs).Sublist nms ∧ ∀ g ∈ fs, Wf n g.2.2 := hw
      obtain ⟨p', a, ws, e, r1, r2, r3⟩ := hv2.row
      cases e
      have hl : ws.length = fs.length := (dps_len r3).trans (encs_len fs)
      have h3 : fs.length ≤ 3 := fields_few hw.1
      refine isOpen_way (K := K) (H0 := H) ⟨rfl, rfl⟩ r1 s2 (b1.trans (same_but su)) fun io H2 hio b2 s2 tk2 => ?_
      refine ⟨(by show 0 ≤ sizeLine; decide), fun D hD => ?_⟩
      have sD := same_new hD (.lst [])
      have tkD := tk2.trans (same_tk sD)
      have nD : D ≠ st := s2.ne hD
      have fD : H D = none := b2.fresh hs hD s2
      refine ⟨_, rfl, p, _, _, _, rfl, rfl, tkD.seqT r1, atI_nat (j := 1) rfl, a, rfl, ⟨_, tkD.seqT r2⟩, ?_⟩
      refine for_it (walk_tup (K := K) (a := a) (xs := ws)) (fun i σ H3 => ∃ (acc : List V) (gs : List Fd) (o5 o6 o7 : Option V), σ = [some (.ref st), some (.ref p), some (.int r), some (.bl io), some (.ref D), o5, o6, o7] ∧ But st H H3 ∧ StAt st H3 ∧
          Tk (upd H1 u (.lst [.str "to", .str "box"])) H3 ∧ H3 D = some (.lst acc) ∧ DpAll K H3 acc (encs gs) ∧ (names gs).Sublist ((names fs).take i) ∧ (∀ g ∈ gs, Wf n g.2.2) ∧ acc.length ≤ i ∧
          (∀ x m k, (x, m, k) ∈ gs → ∃ k', (x, m, k') ∈ fs ∧ lek n k k' = true) ∧ (io = false → names gs = (names fs).take i))
        ⟨[], [], none, none, none, rfl, b2.trans (same_but sD), s2.same sD, tkD, upd_same, .nil, List.Sublist.refl _, fun _ z => (nomatch z), Nat.le_refl _, fun _ _ _ z => (nomatch z), fun _ => rfl⟩ (fun i σ H3 _ ⟨_, _, _, _, _, _, _, _, t3, _⟩ => t3.seqT r2) ?_ ?_
      · rintro i y σ H3 H4 hi ⟨acc, gs, o5, o6, o7, rfl, b3, s3, t3, e3, dd, sub, wf, la, inn, cls⟩ ⟨rfl, hy⟩
        have hi : i < ws.length := hi
        obtain ⟨x, m, c, t, z, f1, rfl, f2, f3⟩ := flds_at r3 hy
        have fx : (names fs)[i]? = some x := by
          show (fs.map fun f => f.1)[i]? = _
          rw [List.getElem?_map, f1]
          rfl
        have fm := List.mem_of_getElem? f1
        refine ⟨t, _, rfl, t3.seqT f2, rfl, _, _, rfl, _, _, rfl, _, _, rfl, rfl, ?_⟩
        refine keep_way (st := st) (io := io) rfl rfl s3 fun b H5 hb b5 s5 => ?_
        have tk5 := s3.tk b5
        have e5 := b5 D _ nD e3
        refine ite2 (fun cb => ?_) (fun cb => ?_)
        · refine ⟨_, rfl, .inl ⟨rfl, _, SqL.of e5⟩, _, rfl, _, rfl, _, rfl, _, rfl, st, z, c, rfl, s5, f3.tk (t3.trans tk5), hw.2 _ fm, fun z' c' H6 b6 s6 k6 w6 l6 => ?_⟩
          refine ⟨(by show 3 ≤ sizeLine; decide), fun t' ht => ?_⟩
          have e6 : H6 D = some (.lst acc) := b6 D _ nD e5
          have tk6 := s5.tk b6
          have nDt : D ≠ t' := ne_of_none e6 ht
          have tkt := tk_new (o := .tup [.str x, .str (markS m), z']) ht
          have eDt : (upd H6 t' (.tup [.str x, .str (markS m), z'])) D = some (.lst acc) := by rw [upd_ne nDt]; exact e6
          have tkD2 := tk_lst (ys := acc ++ [.ref t']) eDt
          refine ⟨D, acc, _, rfl, rfl, eDt, small100 (by omega), ?_⟩
          have all1 : But st H (upd H6 t' (.tup [.str x, .str (markS m), z'])) := ((b3.trans b5).trans b6).trans (same_but (same_new ht _))
          refine ⟨acc ++ [.ref t'], gs ++ [(x, m, c')], _, _, _, rfl, but_new all1 fD, but_st (s6.same (same_new ht _)) nD, ((((t3.trans tk5).trans tk6).trans tkt).trans tkD2), upd_same, ?_, names_snoc sub fx, ?_, ?_, ?_, ?_⟩
          · exact flds_snoc (flds_tk dd (((tk5.trans tk6).trans tkt).trans tkD2)) (tkD2.seqT sqT_upd) ((k6.tk tkt).tk tkD2)
          · intro g hg
            rcases List.mem_append.mp hg with z | z
            · exact wf g z
            · rw [List.mem_singleton.mp z]
              exact w6
          · rw [List.length_append, List.length_singleton]
            omega
          · intro x' m' k' hk
            rcases List.mem_append.mp hk with z | z
            · exact inn x' m' k' z
            · cases List.mem_singleton.mp z
              exact ⟨c, fm, l6⟩
          · intro hio
            have q : names (gs ++ [(x, m, c')]) = names gs ++ [x] := by
              unfold names
              rw [List.map_append]
              rfl
            rw [q, cls hio, take_one fx]
        · have cb : b = false := by
            cases b with
            | false => rfl
            | true => exact absurd rfl cb
          have hio2 := hb cb
          exact ⟨acc, gs, _, _, _, rfl, b3.trans b5, s5, t3.trans tk5, e5, flds_tk dd tk5, names_skip sub, wf, by omega, inn, fun h => by rw [h] at hio2; cases hio2⟩
      · rintro σ H3 ⟨acc, gs, o5, o6, o7, rfl, b3, s3, t3, e3, dd, sub, wf, la, inn, cls⟩
        have lfs : (names fs).length = ws.length := by
          unfold names
          rw [List.length_map, hl]
        rw [← lfs, List.take_length] at sub cls
        refine ⟨_, rfl, D, acc, rfl, .inl ⟨SqL.of e3, fun a2 ha => ?_⟩⟩
        have tka := tk_new (o := .tup acc) ha
        refine ⟨_, rfl, (by show 3 ≤ sizeLine; decide), fun pp hp => ?_⟩
        have tp := tk_new (o := .tup [.str "row", .ref a2, .bl io]) hp
        refine q _ (.row gs io) _ ((b3.trans (same_but (same_new ha _))).trans (same_but (same_new hp _))) ((s3.same (same_new ha _)).same (same_new hp _)) ?_ ⟨sub.trans hw.1, wf⟩ (lek_forgot hw.1 hio inn cls)
        exact .close (k := .row gs io) sqT_upd (.cons (.tup (tp.seqT sqT_upd) (flds_tk dd (tka.trans tp))) (.cons (.bl _) .nil))
end
end CW

namespace CW
open PySem L2 PySem.Spec PyProof.Rows
section
variable {P : Program} {w : World} {K : PySem.W.Frag} {mg : Str → Option Value} {base : Heap} {f : Addr} {fd : FuncData}
theorem scNear : FnScope ["state", "kind", "deep", "way", "fields", "name", "mark", "inner", "pick"] ["state", "kind", "deep"] (defScope sNear) := ⟨rfl, rfl, rfl, by decide +kernel, rfl, by decide +kernel, by decide +kernel⟩
def spNear (K : PySem.W.Frag) (n : Nat) : Sp := fun vs H Q _ => ∃ (st : Addr) (v : V) (k : Kd) (d : Int), vs = [.ref st, v, .int d] ∧ StAt st H ∧ KAt K H v k ∧ Wf n k ∧ d.toNat < n ∧ d.toNat < 4 ∧
  ∀ v' k' H', But st H H' → StAt st H' → KAt K H' v' k' → Wf n k' → Q v' H'
/-- a field is put in, its kind a near one -/
def tsApp (K : PySem.W.Frag) (n : Nat) : TS := tIfS (tTest (tOp rNe (tVar 8) (tC (.int 1))))
  (tDrop (tBM K "list" rAppend (tVar 4) (tCons (tTup (tCons (tVar 5) (tCons (tVar 6) (tCons (tCall (spNear K n) [] E0 (tCons (tVar 0) (tCons (tVar 7) (tCons (tOp (rI0 fun i j => .int (i - j)) (tVar 2) (tC (.int 1))) tNil)))) tNil)))) tNil))) tNext
theorem near_app {D : Ends} {σ : L2.St} {H4 : Hp} {n : Nat} {st Dl : Addr} {d pick : Int} {x : Str} {m : Bool} {z : V} {c : Kd} {acc : List V} (h : σ[0]? = some (some (.ref st)) ∧ σ[2]? = some (some (.int d)) ∧ σ[4]? = some (some (.ref Dl)) ∧ σ[5]? = some (some (.str x)) ∧ σ[6]? = some (some (.str (markS m))) ∧ σ[7]? = some (some z) ∧ σ[8]? = some (some (.int pick)))
    (s4 : StAt st H4) (nD : Dl ≠ st) (e4 : H4 Dl = some (.lst acc)) (la : acc.length ≤ 50) (kz : KAt K H4 z c) (wc : Wf n c) (hd : d.toNat < n + 1) (hd4 : d.toNat < 4) (keep : D.nx σ H4)
    (more : ∀ t z' c' H6, But st H4 H6 → StAt st H6 → KAt K H6 z' c' → Wf n c' → H6 t = none → D.nx σ (upd (upd H6 t (.tup [.str x, .str (markS m), z'])) Dl (.lst (acc ++ [.ref t])))) : tsApp K n D σ H4 := by
  obtain ⟨h0, h2, h4, h5, h6, h7, h8⟩ := h
  have npos : 0 < n := by
    cases n with
    | zero => exact wc.elim
    | succ n => exact Nat.succ_pos n
  refine ⟨_, h8, rfl, _, rfl, ?_⟩
  refine ite2 (fun _ => ?_) (fun _ => keep)
  refine ⟨_, h4, .inl ⟨rfl, _, SqL.of e4⟩, _, h5, _, h6, _, h0, _, h7, _, h2, _, _, rfl, rfl, st, z, c, d - 1, rfl, s4, kz, wc, by omega, by omega, fun z' c' H6 b6 s6 k6 w6 => ?_⟩
  refine ⟨(by show 3 ≤ sizeLine; decide), fun t ht => ?_⟩
  have e6 : H6 Dl = some (.lst acc) := b6 Dl _ nD e4
  refine ⟨Dl, acc, _, rfl, rfl, by rw [upd_ne (ne_of_none e6 ht)]; exact e6, small100 (by omega), ?_⟩
  exact more t z' c' H6 b6 s6 k6 w6 ht
theorem ok_near {n : Nat} (F : Fun K "_law_near" "_law_near" sNear f fd) (G : Glb K mg) (CT : Cal P w K mg base 1 "_law_take" ["state", "many"] spTake) (CK : Cal P w K mg base 5 "_law_kind" ["state", "deep"] (spKind K 4)) (CC : Cal P w K mg base (n + 6) "_law_near" ["state", "kind", "deep"] (spNear K n)) :
    FnOk P w K mg base CX0 (n + 7) f fd ["state", "kind", "deep"] (spNear K (n + 1)) := by
  obtain ⟨gT, dT, GT, bT, kT, mT⟩ := CT
  obtain ⟨gK, dK, GK, bK, kK, mK⟩ := CK
  obtain ⟨gC, dC, GC, bC, kC, mC⟩ := CC
  refine F.ok scNear (fun vs H Q E h => ?_) (fun cdv A outer s H vs Q E hr h => ?_)
  · obtain ⟨st, v, k, d, rfl, _⟩ := h
    rfl
  obtain ⟨st, v, k, d, rfl, hs, hv, hw, hd, hd4, q⟩ := h
  have nd := scNear.nd
  have hr1 : Room 1 _ := hr.mono (by omega)
  have hr5 : Room 5 _ := hr.mono (by omega)
  refine ⟨_, pss_cons (ps_set (i := 3) nd rfl (Or.inl rfl) (pe_call GT hr1 rfl mT kT bT .nil pass0 (pa_cons (pv 0) (pa_cons pe_int pa_nil))))
    (pss_cons (ps_if (pt_cmpR op_eq (pv 3) pe_int (nomark _)) (pss_one (ps_ret (pe_tup (pa_cons pe_str pa_nil)))) pss_nil)
    (pss_cons (ps_if (pt_cmpR op_eq (pv 3) pe_int (nomark _)) (pss_one (ps_ret (pe_call GK hr5 rfl mK kK bK .nil pass0 (pa_cons (pv 0) (pa_cons (pv 2) pa_nil))))) pss_nil)
    (pss_cons (ps_if (pt_cmpR op_in_seq (pe_ix ix_tup (pv 1) pe_int (fun _ _ => rfl)) (pe_lst (pa_cons pe_str (pa_cons pe_str pa_nil))) rfl)
      (pss_one (ps_ret (pe_op op_catA (pe_tup (pa_cons (pe_ix ix_tup (pv 1) pe_int (fun _ _ => rfl)) pa_nil)) (pe_callTy call_tuple_of rfl G.tuple PyProof.Rows.boot_tuple (pa_cons
        (pe_lc (own := [("inner", 7)]) (g := gName 7) (tt := tYes) rfl nd (pi_tup (pe_slice sl_tupA (pv 1) (po_some pe_int) po_none)) (blkOk_by (own := [("inner", 7)]) (N := ["state", "kind", "deep", "way", "fields", "name", "mark", "inner", "pick"]) (sc := defScope sNear) (by decide +kernel))
          (fun _ _ _ _ _ => pg_name (i := 7) nd rfl (Or.inl rfl)) (fun _ _ _ _ _ => pts_nil) (fun _ _ _ _ _ => pe_call GC hr rfl mC kC bC .nil pass0 (pa_cons (pv 0) (pa_cons (pv 7) (pa_cons (pe_op op_sub (pv 2) pe_int) pa_nil))))) pa_nil))))) pss_nil)
    (pss_cons (ps_if (pt_cmpR op_ne (pe_ix ix_tup (pv 1) pe_int (fun _ _ => rfl)) pe_str (nomark _)) (pss_one (ps_ret (pv 1))) pss_nil)
    (pss_cons (ps_set (i := 4) nd rfl (Or.inl rfl) (pe_lst pa_nil))
    (pss_cons (ps_for PassesOwn.never rfl (pi_tup (pe_ix ix_tup (pv 1) pe_int (fun _ _ => rfl)))
        (pg_tup rfl (pgs_cons (pg_name (i := 5) nd rfl (Or.inl rfl)) (pgs_cons (pg_name (i := 6) nd rfl (Or.inl rfl)) (pgs_cons (pg_name (i := 7) nd rfl (Or.inl rfl)) pgs_nil))))
      (pss_cons (ps_set (i := 8) nd rfl (Or.inl rfl) (pe_call GT hr1 rfl mT kT bT .nil pass0 (pa_cons (pv 0) (pa_cons pe_int pa_nil))))
      (pss_cons (ps_if (pt_cmpR op_eq (pv 8) pe_int (nomark _))
        (pss_one (ps_set (i := 6) nd rfl (Or.inl rfl) (pe_ix ix_list (pe_lst (pa_cons pe_str (pa_cons pe_str pa_nil))) (pe_call GT hr1 rfl mT kT bT .nil pass0 (pa_cons (pv 0) (pa_cons pe_int pa_nil))) (fun _ _ => rfl)))) pss_nil)
      (pss_one (ps_if (pt_cmpR op_ne (pv 8) pe_int (nomark _))
        (pss_one (ps_expr (pe_bm PySem.F.plainAttrs_list PySem.F.slot_list_append PySem.F.type_list_append mt_append (pv 4) (pa_cons (pe_tup (pa_cons (pv 5) (pa_cons (pv 6) (pa_cons (pe_call GC hr rfl mC kC bC .nil pass0 (pa_cons (pv 0) (pa_cons (pv 7) (pa_cons (pe_op op_sub (pv 2) pe_int) pa_nil)))) pa_nil)))) pa_nil)))) pss_nil)))))
    (pss_one (ps_ret (pe_tup (pa_cons pe_str (pa_cons (pe_callTy call_tuple_of rfl G.tuple PyProof.Rows.boot_tuple (pa_cons (pv 4) pa_nil))
      (pa_cons (pe_cmpR op_ne (pe_ix ix_tup (pv 1) pe_int (fun _ _ => rfl)) (pe_cmpR op_eq (pe_call GT hr1 rfl mT kT bT .nil pass0 (pa_cons (pv 0) (pa_cons pe_int pa_nil))) pe_int (nomark _)) (nomark _)) pa_nil)))))))))))), ?_⟩
  refine ⟨_, rfl, st, 8, rfl, hs, by decide, by decide, fun r H1 r0 r1 b1 s1 => ?_⟩
  have tk1 := hs.tk b1
  refine ⟨_, rfl, rfl, _, rfl, ?_⟩
  refine ite2 (fun c => ?_) (fun c => ?_)
  · refine ⟨(by show 1 ≤ sizeLine; decide), fun u hu => ?_⟩
    exact q _ .any _ (b1.trans (same_but (same_new hu _))) (s1.same (same_new hu _)) (new_plain (k := .any) rfl) trivial
  refine ⟨_, rfl, rfl, _, rfl, ?_⟩
  refine ite2 (fun c2 => ?_) (fun c2 => ?_)
  · refine ⟨_, rfl, _, rfl, st, d, rfl, s1, hd4, fun v' k' H2 b2 s2 k2 w2 => ?_⟩
    exact q v' k' H2 (b1.trans b2) s2 k2 (wf_mono w2 hd)
  obtain ⟨p, vs, rfl, q1, q2⟩ := (hv.tk tk1).open
  refine ⟨_, rfl, p, _, _, _, rfl, rfl, q1, atI_nat (j := 0) rfl, (by show 2 ≤ sizeLine; decide), fun u hu => ?_⟩
  have su := same_new hu (.lst [.str "to", .str "box"])
  have tku := same_tk su
  refine ⟨u, _, rfl, .inl (SqL.of upd_same), rfl, rfl, _, rfl, ?_⟩
  rw [show inV (V.str (headS k)) [.str "to", .str "box"] = isPair k by rw [headS_tag, in_pairs]; rfl]
  have s2 := s1.same su
  have hv2 := (hv.tk tk1).tk tku
  have q12 := tku.seqT q1
  cases ep : isPair k with
  | true =>
    refine iteT ?_
    have q2 : DpAll K H1 vs (rest k) := q2
    rw [rest_kids ep] at q2
    refine ⟨_, rfl, p, _, _, _, rfl, rfl, q12, atI_nat (j := 0) rfl, (by show 1 ≤ sizeLine; decide), fun t1 h1 => ?_⟩
    have sa := same_new h1 (.tup [.str (headS k)])
    have q13 := (same_tk sa).seqT q12
    refine ⟨_, rfl, _, rfl, p, _, rfl, q13, fun hw => absurd (cut_whole (ws := V.str (headS k) :: vs) hw) (fun z => nomatch z), fun _ t2 h2 => ?_⟩
    have sb := same_new h2 (.tup (cutV (V.str (headS k) :: vs) (some 1) none))
    have s3 := (s2.same sa).same sb
    refine ⟨t2, rfl, ⟨_, sqT_upd⟩, fun D hD => kids_comp (st := st) (ws := vs) (cs := kids k) (R := fun a b => Wf n a) (v := 7) (by show 7 < 9; decide) s3 (by have z := sqT_upd (K := K) (H := upd (upd H1 u (.lst [.str "to", .str "box"])) t1 (.tup [.str (headS k)])) (p := t2) (xs := cutV (V.str (headS k) :: vs) (some 1) none); rw [cut_one] at z ⊢; exact z)
      (kids_tk q2 (tku.trans (same_tk (sa.trans sb)))) hD (by have := kids_few k; omega) ?_ ?_⟩
    · intro i x c H2 Q2 hc hs2 hk hq
      have wc := kids_wf hw _ (List.mem_of_getElem? hc)
      have npos : 0 < n := by
        cases n with
        | zero => exact wc.elim
        | succ n => exact Nat.succ_pos n
      refine ⟨_, rfl, _, rfl, _, rfl, _, _, rfl, rfl, st, x, c, d - 1, rfl, hs2, hk, wc, by omega, by omega, fun y c' H3 b3 s3 k3 w3 => ?_⟩
      exact hq y c' H3 b3 s3 k3 w3
    · intro H4 acc ks b4 s4 e4 d4 p4
      refine ⟨D, acc, rfl, .inl ⟨SqL.of e4, fun t3 h3 => ?_⟩⟩
      have tk4 := s3.tk b4
      have sc := same_new h3 (.tup acc)
      have at1 : SqT K (upd H4 t3 (.tup acc)) t1 [.str (headS k)] := (same_tk sc).seqT (tk4.seqT ((same_tk sb).seqT sqT_upd))
      have la : acc.length = ks.length := kids_len d4
      have lk : ks.length ≤ 2 := by
        have := kids_few k
        have := p4.length
        omega
      have bAll : But st H (upd H4 t3 (.tup acc)) := (((b1.trans (same_but su)).trans (same_but (sa.trans sb))).trans b4).trans (same_but sc)
      have sAll : StAt st (upd H4 t3 (.tup acc)) := s4.same sc
      have fin : ∀ k' : Kd, headS k' = headS k → rest k' = ks.map enc → ks ≠ [] → Wf (n + 1) k' → (rCatA K) (.ref t1) (.ref t3) (upd H4 t3 (.tup acc)) Q := fun k' h1 h2 h3 h4 => by
        refine ⟨t1, t3, [.str (headS k)], acc, rfl, rfl, at1, sqT_upd, small40 (by rw [List.length_singleton]; omega), fun z => (nomatch z), fun _ z => ?_, fun _ _ pp hp => ?_⟩
        · rw [z] at la
          exact absurd (List.eq_nil_of_length_eq_zero la.symm) h3
        · refine q _ k' _ (bAll.trans (same_but (same_new hp _))) (sAll.same (same_new hp _)) ?_ h4
          refine pairK (h := headS k) sqT_upd h1 ?_
          rw [h2]
          exact kids_tk d4 ((same_tk sc).trans (tk_new hp))
      cases k with
      | to a b =>
        obtain ⟨a', b', rfl, wa, wb⟩ := paired_two p4
        exact fin (.to a' b') rfl rfl (fun z => nomatch z) ⟨wa, wb⟩
      | box a =>
        obtain ⟨a', rfl, wa⟩ := paired_one p4
        exact fin (.box a') rfl rfl (fun z => nomatch z) wa
      | any => exact absurd ep (by simp [isPair, tag])
      | num => exact absurd ep (by simp [isPair, tag])
      | truth => exact absurd ep (by simp [isPair, tag])
      | row fs o => exact absurd ep (by simp [isPair, tag])
  | false =>
    refine iteF ?_
    refine ⟨_, rfl, p, _, _, _, rfl, rfl, q12, atI_nat (j := 0) rfl, rfl, _, rfl, ?_⟩
    rw [show decide (V.str (headS k) = V.str "row") = decide (tag k = 5) from dec_head k 5]
    have plain : Q (.ref p) _ := q _ k _ (b1.trans (same_but su)) s2 hv2 hw
    cases k with
    | any => exact iteT ⟨_, rfl, plain⟩
    | num => exact iteT ⟨_, rfl, plain⟩
    | truth => exact iteT ⟨_, rfl, plain⟩
    | to a b => cases ep
    | box a => cases ep
    | row fs op =>
      refine iteF ?_
      have hw : (names fs).Sublist nms ∧ ∀ g ∈ fs, Wf n g.2.2 := hw
      obtain ⟨p', a, ws, e, r1, r2, r3⟩ := hv2.row
      cases e
      have hl : ws.length = fs.length := (dps_len r3).trans (encs_len fs)
      have h3 : fs.length ≤ 3 := fields_few hw.1
      refine ⟨(by show 0 ≤ sizeLine; decide), fun D hD => ?_⟩
      have sD := same_new hD (.lst [])
      have tkD := same_tk sD
      have nD : D ≠ st := s2.ne hD
      have b2 : But st H _ := b1.trans (same_but su)
      have fD : H D = none := b2.fresh hs hD s2
      refine ⟨_, rfl, p, _, _, _, rfl, rfl, tkD.seqT r1, atI_nat (j := 1) rfl, a, rfl, ⟨_, tkD.seqT r2⟩, ?_⟩
      refine for_it (walk_tup (K := K) (a := a) (xs := ws)) (fun i σ H3 => ∃ (acc : List V) (gs : List Fd) (o5 o6 o7 o8 : Option V), σ = [some (.ref st), some (.ref p), some (.int d), some (.int r), some (.ref D), o5, o6, o7, o8] ∧ But st H H3 ∧ StAt st H3 ∧
          Tk (upd H1 u (.lst [.str "to", .str "box"])) H3 ∧ H3 D = some (.lst acc) ∧ DpAll K H3 acc (encs gs) ∧ (names gs).Sublist ((names fs).take i) ∧ (∀ g ∈ gs, Wf n g.2.2) ∧ acc.length ≤ i)
        ⟨[], [], none, none, none, none, rfl, b2.trans (same_but sD), s2.same sD, tkD, upd_same, .nil, List.Sublist.refl _, fun _ z => (nomatch z), Nat.le_refl _⟩ (fun i σ H3 _ ⟨_, _, _, _, _, _, _, _, _, t3, _⟩ => t3.seqT r2) ?_ ?_
      · rintro i y σ H3 H4 hi ⟨acc, gs, o5, o6, o7, o8, rfl, b3, s3, t3, e3, dd, sub, wf, la⟩ ⟨rfl, hy⟩
        have hi : i < ws.length := hi
        obtain ⟨x, m, c, t, z, f1, rfl, f2, f3⟩ := flds_at r3 hy
        have fx : (names fs)[i]? = some x := by
          show (fs.map fun f => f.1)[i]? = _
          rw [List.getElem?_map, f1]
          rfl
        have fm := List.mem_of_getElem? f1
        refine ⟨t, _, rfl, t3.seqT f2, rfl, _, _, rfl, _, _, rfl, _, _, rfl, rfl, ?_⟩
        refine ⟨_, rfl, st, 8, rfl, s3, by decide, by decide, fun pick H5 p0 p1 b5 s5 => ?_⟩
        have tk5 := s3.tk b5
        have e5 := b5 D _ nD e3
        have tail : ∀ (m' : Bool) (H6 : Hp) (De : Ends), But st H5 H6 → StAt st H6 → (∀ σ H, (∃ (acc : List V) (gs : List Fd) (o5 o6 o7 o8 : Option V), σ = [some (.ref st), some (.ref p), some (.int d), some (.int r), some (.ref D), o5, o6, o7, o8] ∧ But st _ H ∧ StAt st H ∧
            Tk (upd H1 u (.lst [.str "to", .str "box"])) H ∧ H D = some (.lst acc) ∧ DpAll K H acc (encs gs) ∧ (names gs).Sublist ((names fs).take (i + 1)) ∧ (∀ g ∈ gs, Wf n g.2.2) ∧ acc.length ≤ i + 1) → De.nx σ H) →
            tsApp K n De [some (.ref st), some (.ref p), some (.int d), some (.int r), some (.ref D), some (.str x), some (.str (markS m')), some z, some (.int pick)] H6 := fun m' H6 De b6 s6 hn => by
          have tk6 := s5.tk b6
          have e6 := b6 D _ nD e5
          refine near_app (st := st) (Dl := D) (d := d) (pick := pick) (x := x) (m := m') (z := z) (c := c) (acc := acc) ⟨rfl, rfl, rfl, rfl, rfl, rfl, rfl⟩ s6 nD e6 (by omega) (f3.tk ((t3.trans tk5).trans tk6)) (hw.2 _ fm) hd hd4 ?_ ?_
          · exact hn _ _ ⟨acc, gs, _, _, _, _, rfl, (b3.trans b5).trans b6, s6, (t3.trans tk5).trans tk6, e6, flds_tk dd (tk5.trans tk6), names_skip sub, wf, by omega⟩
          · intro t' z' c' H7 b7 s7 k7 w7 ht
            have e7 : H7 D = some (.lst acc) := b7 D _ nD e6
            have tk7 := s6.tk b7
            have nDt : D ≠ t' := ne_of_none e7 ht
            have tkt := tk_new (o := .tup [.str x, .str (markS m'), z']) ht
            have eDt : (upd H7 t' (.tup [.str x, .str (markS m'), z'])) D = some (.lst acc) := by rw [upd_ne nDt]; exact e7
            have tkD2 := tk_lst (ys := acc ++ [.ref t']) eDt
            have all1 : But st H (upd H7 t' (.tup [.str x, .str (markS m'), z'])) := (((b3.trans b5).trans b6).trans b7).trans (same_but (same_new ht _))
            refine hn _ _ ⟨acc ++ [.ref t'], gs ++ [(x, m', c')], _, _, _, _, rfl, but_new all1 fD, but_st (s7.same (same_new ht _)) nD, (((((t3.trans tk5).trans tk6).trans tk7).trans tkt).trans tkD2), upd_same, ?_, names_snoc sub fx, ?_, ?_⟩
            · exact flds_snoc (flds_tk dd ((((tk5.trans tk6).trans tk7).trans tkt).trans tkD2)) (tkD2.seqT sqT_upd) ((k7.tk tkt).tk tkD2)
            · intro g hg
              rcases List.mem_append.mp hg with z | z
              · exact wf g z
              · rw [List.mem_singleton.mp z]
                exact w7
            · rw [List.length_append, List.length_singleton]
              omega
        refine ⟨_, rfl, rfl, _, rfl, ?_⟩
        refine ite2 (fun cp => ?_) (fun cp => ?_)
        · refine ⟨(by show 2 ≤ sizeLine; decide), fun l hl => ?_⟩
          have sl := same_new hl (.lst [.str "must", .str "may"])
          refine ⟨_, rfl, st, 2, rfl, s5.same sl, by decide, by decide, fun g H6 g0 g1 b6 s6 => ?_⟩
          have el : H6 l = some (.lst [.str "must", .str "may"]) := b6 l _ (s5.ne hl) upd_same
          refine ⟨l, _, g, .str (markS (decide (g = 0))), rfl, rfl, SqL.of el, ?_, ?_⟩
          · by_cases h : g = 0
            · rw [h]
              exact atI_nat (j := 0) rfl
            · have h : g = 1 := by omega
              rw [h]
              exact atI_nat (j := 1) rfl
          · exact tail (decide (g = 0)) H6 _ ((same_but sl).trans b6) s6 fun σ H h => h
        · exact tail m H5 _ (But.refl _ _) s5 fun σ H h => h
      · rintro σ H3 ⟨acc, gs, o5, o6, o7, o8, rfl, b3, s3, t3, e3, dd, sub, wf, la⟩
        have lfs : (names fs).length = ws.length := by
          unfold names
          rw [List.length_map, hl]
        rw [← lfs, List.take_length] at sub
        refine ⟨_, rfl, D, acc, rfl, .inl ⟨SqL.of e3, fun a2 ha => ?_⟩⟩
        have tka := tk_new (o := .tup acc) ha
        have s4 := s3.same (same_new ha (.tup acc))
        refine ⟨_, rfl, p, _, _, _, rfl, rfl, tka.seqT (t3.seqT r1), atI_nat (j := 2) rfl, _, rfl, st, 5, rfl, s4, by decide, by decide, fun g H6 g0 g1 b6 s6 => ?_⟩
        have tk6 := s4.tk b6
        refine ⟨rfl, rfl, (by show 3 ≤ sizeLine; decide), fun pp hp => ?_⟩
        generalize (!decide (V.bl op = V.bl (decide (V.int g = V.int 0)))) = io at hp ⊢
        have tp := tk_new (o := .tup [.str "row", .ref a2, .bl io]) hp
        refine q _ (.row gs io) _ (((b3.trans (same_but (same_new ha _))).trans b6).trans (same_but (same_new hp _))) (s6.same (same_new hp _)) ?_ ⟨sub.trans hw.1, wf⟩
        exact .close (k := .row gs io) sqT_upd (.cons (.tup (tp.seqT (tk6.seqT sqT_upd)) (flds_tk dd ((tka.trans tk6).trans tp))) (.cons (.bl _) .nil))
end
end CW

/-! A rule of our own: set(a list of texts), and sorted of such a set. -/
namespace CW
open PySem PySem.Spec PyProof.Rows L2
/-- the text of an entry -/
def txOf (e : Int × Value) : Str := match e.2 with | .str x _ => x | _ => Str.empty
def TxE (w : World) (e : Int × Value) : Prop := ∃ x tk, e.2 = Value.str x tk ∧ e.1 = hashStr w x
/-- a set of texts at a, as it can be walked: S its members, n their number -/
def TxSet (w : World) (h : Heap) (a : Addr) (S : Str → Bool) (n : Nat) : Prop :=
  ∃ o es ep t, (h.get? a = some o ∧ o.ExactSet ∧ o.data = .set es ep t) ∧ ((∀ e ∈ es.toList, TxE w e) ∧ (es.toList.map txOf).Nodup ∧ ∀ x, S x = true ↔ x ∈ es.toList.map txOf) ∧
    (es.size < scanBound ∧ t.fits es.size = true ∧ es.size = n) ∧ Ris t.place.toList ∧ (w.params.followText "set-order" = true ∨ t.led = true)
section
variable {P : Program} {w : World} {h h' : Heap} {a : Addr} {S : Str → Bool} {n : Nat}
theorem TxSet.at (R : TxSet w h a S n) (k : ∀ o, h.get? a = some o → h'.get? a = some o) : TxSet w h' a S n := by
  obtain ⟨o, es, ep, t, ⟨ho, r1⟩, r2⟩ := R
  exact ⟨o, es, ep, t, ⟨k o ho, r1⟩, r2⟩
theorem TxSet.congr {S' : Str → Bool} {n' : Nat} (R : TxSet w h a S n) (e : ∀ k, S' k = S k) (en : n' = n) : TxSet w h a S' n' := by
  rw [show S' = S from funext e, en]
  exact R
theorem tx_elems {l : List (Int × Value)} (g : ∀ e ∈ l, TxE w e) : ElemsOf (PySem.strKind P w) l := fun e he => by
  obtain ⟨x, tk, h1, h2⟩ := g e he
  exact ⟨⟨x, by rw [h1]; exact strKind_is P w x tk, h2⟩, by rw [h1] <;> rfl⟩
theorem tx_is {e : Int × Value} (g : TxE w e) (k : Str) : (PySem.strKind P w).is k e.2 = true ↔ txOf e = k := by
  obtain ⟨x, tk, h1, _⟩ := g
  unfold txOf
  rw [h1]
  constructor
  · intro z
    obtain ⟨t, q⟩ := Value.isStrOf_shape (x := k) (v := Value.str x tk) z
    injection q with q1 _
  · intro z
    have z : x = k := z
    rw [z]
    exact strKind_is P w k tk
theorem tx_mem {l : List (Int × Value)} (g : ∀ e ∈ l, TxE w e) (k : Str) : k ∈ l.map txOf ↔ ∃ e ∈ l, (PySem.strKind P w).is k e.2 = true := by
  rw [List.mem_map]
  exact ⟨fun ⟨e, he, q⟩ => ⟨e, he, (tx_is (g e he) k).2 q⟩, fun ⟨e, he, q⟩ => ⟨e, he, (tx_is (g e he) k).1 q⟩⟩
end
section
variable {P : Program} {w : World} {A : Around} {E : Value → Shared → Prop} {s : Shared} {a : Addr} {S : Str → Bool} {n : Nat}
/-- the entries laid, and laid anew where the table is too full -/
theorem tx_lay {g : Bool → Sem Unit} (hg : ∀ (b : Bool) (s₁ : Shared) (Q' : Unit → Shared → Prop), Q' () s₁ → wpAny (model P w) A (g b) Q' E s₁) {o : Obj} {es : Array (Int × Value)} {ep : Nat} {t : SetTable}
    (at0 : s.heap.get? a = some o ∧ o.ExactSet ∧ o.data = .set es ep t) {es1 : Array (Int × Value)} {t2 : SetTable} {S' : Str → Bool}
    (good : (∀ e ∈ es1.toList, TxE w e) ∧ (es1.toList.map txOf).Nodup ∧ ∀ k, S' k = true ↔ k ∈ es1.toList.map txOf) (hb1 : es1.size < scanBound) (hf2 : t2.fits es1.size = true) (walk : Ris t2.place.toList ∧ (w.params.followText "set-order" = true ∨ t2.led = true))
    {wasDummy : Bool} {R : Option Bool → Shared → Prop} (hR : ∀ h', Heap.SameBut a s.heap h' → TxSet w h' a S' es1.size → R (some true) { s with heap := h' }) :
    wpAny (model P w) A (do
      storeSet a es1 t2
      if (!wasDummy && t2.tooFull) = true then do
          g (relayAll t2 es1 (SetTable.grown es1.size)).2.2
          storeSet a (relayAll t2 es1 (SetTable.grown es1.size)).1 (relayAll t2 es1 (SetTable.grown es1.size)).2.1
          pure (some true)
        else pure (some true)) R E s := by
  obtain ⟨ho, hex, hd⟩ := at0
  obtain ⟨g1, nd1, m1⟩ := good
  refine wpAny_bind (wpAny_storeSet_of ho hd ?_ (fits_of_scanBound hb1))
  have ho1 := store_at (es' := es1) (t' := t2) ho hd
  have sb := Heap.SameBut.update s.heap a (Obj.putSet es1 t2)
  split
  · have pm := relayAll_perm t2 es1 (SetTable.grown es1.size)
    have f3 := relayAll_fits t2 es1 (SetTable.grown es1.size)
    have r3 := relayAll_ris t2 es1 (SetTable.grown es1.size)
    have l3 := relayAll_led t2 es1 (SetTable.grown es1.size)
    generalize relayAll t2 es1 (SetTable.grown es1.size) = Z at pm f3 r3 l3 ⊢
    obtain ⟨es2, t3, gave⟩ := Z
    dsimp only at pm f3 r3 l3 ⊢
    have size2 : es2.size = es1.size := by rw [← Array.length_toList, pm.length_eq, Array.length_toList]
    have hb2 : es2.size < scanBound := by rw [size2]; exact hb1
    refine wpAny_bind (hg _ _ _ (wpAny_bind (wpAny_storeSet_of ho1 rfl ?_ (fits_of_scanBound hb2))))
    have ho2 := store_at (es' := es2) (t' := t3) ho1 rfl
    refine wpAny_pure (hR _ (sb.trans (Heap.SameBut.update _ a _)) ⟨_, es2, _, t3, ⟨ho2, hex, rfl⟩, ⟨fun e he => g1 e (pm.mem_iff.mp he), (pm.map txOf).nodup_iff.mpr nd1, fun k => (m1 k).trans (pm.map txOf).mem_iff.symm⟩, ⟨hb2, f3, size2⟩, r3, ?_⟩)
    exact walk.2.imp id fun z => by rw [l3]; exact z
  · exact wpAny_pure (hR _ sb ⟨_, es1, _, t2, ⟨ho1, hex, rfl⟩, ⟨g1, nd1, m1⟩, ⟨hb1, hf2, rfl⟩, walk⟩)
/-- a text is put in, its hash reckoned -/
theorem tx_add {k : Str} {tk : Tok} {Q : Bool → Shared → Prop} (R : TxSet w s.heap a S n) (room : n + 1 < scanBound)
    (hQ : ∀ h', Heap.SameBut a s.heap h' → TxSet w h' a (fun j => S j || decide (j = k)) (if S k = true then n else n + 1) → Q (!S k) { s with heap := h' }) :
    wpAny (model P w) A (setAddHashed a (.str k tk) ((PySem.strKind P w).hash k)) Q E s := by
  obtain ⟨o, es, ep, t, ⟨ho, hex, hd⟩, ⟨g, nd, hm⟩, ⟨hb, hf, hn⟩, hr, hl⟩ := R
  have hkey : (PySem.strKind P w).is k (.str k tk) = true := strKind_is P w k tk
  have scan : (Value.str k tk).scannable = true := rfl
  have hel : ElemsOf (PySem.strKind P w) es.toList := tx_elems g
  unfold setAddHashed setAddHashedIn
  refine wpAny_holding (wpAny_bind (wpAny_setState_of ho hd hf ?_))
  dsimp only
  rw [byScan_of scan hb hel]
  simp only [↓reduceIte]
  unfold setAddByScan
  refine wpAny_bind (wpAny_bind (wpAny_rule (wpAny_bind (wpAny_setScan_of hkey ho hd hf hel ?_))))
  cases hfi : List.findIdx? (fun e => (PySem.strKind P w).is k e.2) es.toList with
  | some j =>
    dsimp only
    obtain ⟨hj, pj, _⟩ := List.findIdx?_eq_some_iff_getElem.mp hfi
    have yes : S k = true := (hm k).2 ((tx_mem (P := P) g k).2 ⟨es.toList[j], List.getElem_mem hj, pj⟩)
    refine wpAny_pure (wpAny_pure ?_)
    have q := hQ s.heap (Heap.SameBut.refl a s.heap) ⟨o, es, ep, t, ⟨ho, hex, hd⟩, ⟨g, nd, fun i => by
      rw [Bool.or_eq_true, decide_eq_true_eq, ← hm i]
      exact ⟨fun z => z.elim id (fun e => e ▸ yes), .inl⟩⟩, ⟨hb, hf, by rw [if_pos yes]; exact hn⟩, hr, hl⟩
    rw [yes] at q
    exact q
  | none =>
    dsimp only
    have out : k ∉ es.toList.map txOf := fun z => by
      obtain ⟨e, he, q⟩ := (tx_mem (P := P) g k).1 z
      have c := List.findIdx?_eq_none_iff.mp hfi e he
      rw [q] at c
      cases c
    have no : S k = false := by
      cases q : S k with
      | false => rfl
      | true => exact absurd ((hm k).1 q) out
    have gave_way : ∀ (b : Bool) {s₁ : Shared} {Q' : Unit → Shared → Prop}, Q' () s₁ → wpAny (model P w) A (match b with | true => rule "set.scan.the-table-gave-way" | false => pure ()) Q' E s₁ :=
      fun b s₁ Q' q => by cases b <;> first | exact wpAny_pure q | exact wpAny_rule q
    have pm := layNew_perm t es ((PySem.strKind P w).hash k) (.str k tk)
    have f1 := layNew_fits t es ((PySem.strKind P w).hash k) (.str k tk)
    have r1 := layNew_ris t es ((PySem.strKind P w).hash k) (.str k tk) hr
    have l1 := layNew_led t es ((PySem.strKind P w).hash k) (.str k tk)
    generalize layNew t es ((PySem.strKind P w).hash k) (.str k tk) = Z at pm f1 r1 l1 ⊢
    obtain ⟨es1, t1, wasDummy, gave⟩ := Z
    dsimp only at pm f1 r1 l1 ⊢
    rw [Array.toList_push] at pm
    have pc : es1.toList.Perm (((PySem.strKind P w).hash k, Value.str k tk) :: es.toList) := pm.trans (List.perm_append_singleton _ _)
    have pk : (es1.toList.map txOf).Perm (k :: es.toList.map txOf) := pc.map txOf
    have good : (∀ e ∈ es1.toList, TxE w e) ∧ (es1.toList.map txOf).Nodup ∧ ∀ i, (S i || decide (i = k)) = true ↔ i ∈ es1.toList.map txOf := by
      refine ⟨fun e he => ?_, pk.nodup_iff.mpr (List.nodup_cons.mpr ⟨out, nd⟩), fun i => ?_⟩
      · rcases List.mem_cons.mp (pc.mem_iff.mp he) with z | z
        · rw [z]
          exact ⟨k, tk, rfl, rfl⟩
        · exact g e z
      · rw [Bool.or_eq_true, decide_eq_true_eq, hm i, pk.mem_iff, List.mem_cons]
        exact Or.comm
    have size1 : es1.size = n + 1 := by rw [← Array.length_toList, pc.length_eq, List.length_cons, Array.length_toList, hn]
    have hb1 : es1.size < scanBound := by rw [size1]; exact room
    have led1 : w.params.followText "set-order" = true ∨ t1.led = true := hl.imp id fun z => by rw [l1]; exact z
    have fin : ∀ h', Heap.SameBut a s.heap h' → TxSet w h' a (fun j => S j || decide (j = k)) es1.size → Q true { s with heap := h' } := fun h' sb r => by
      have q := hQ h' sb
      rw [no] at q
      rw [size1] at r
      exact q r
    refine wpAny_bind (gave_way _ ?_)
    split
    · refine wpAny_bind ?_
      rw [hashByValue_scannable 8 scan]
      refine wpAny_pure (tx_lay ?_ ⟨ho, hex, hd⟩ good hb1 ?_ ⟨?_, ?_⟩ ?_)
      · intro b s₁ Q' q; cases b <;> first | exact wpAny_pure q | exact wpAny_rule q
      · first | (split <;> first | exact f1 | exact SetTable.fits_plain_off f1) | exact f1
      · first | (split <;> exact r1) | exact r1
      · first | (split <;> exact led1) | exact led1
      · intro h' sb r
        dsimp only
        exact wpAny_pure (fin h' sb r)
    · refine wpAny_bind (wpAny_pure ?_)
      simp only [↓reduceIte]
      refine tx_lay ?_ ⟨ho, hex, hd⟩ good hb1 f1 ⟨r1, led1⟩ ?_
      · intro b s₁ Q' q; cases b <;> first | exact wpAny_pure q | exact wpAny_rule q
      · intro h' sb r
        dsimp only
        exact wpAny_pure (fin h' sb r)
theorem tx_empty {h : Heap} (ho : h.get? a = some { cls := .type "set", dict := none, data := .set #[] 0 (.fresh 0 0 (!w.params.followText "set-order")) }) : TxSet w h a (fun _ => false) 0 := by
  refine ⟨_, #[], 0, _, ⟨ho, ⟨rfl, rfl, rfl⟩, rfl⟩, ⟨fun e he => by simp at he, by simp, fun k => by simp⟩, ⟨by decide, by rfl, rfl⟩, List.Pairwise.nil, ?_⟩
  show _ ∨ (!w.params.followText "set-order") = true
  cases w.params.followText "set-order"
  · exact .inr rfl
  · exact .inl rfl
/-- the texts of a walk are put in, one behind the other -/
theorem tx_fill {I : Addr} {fp wr : List Addr} {G : Array GenState → Array GenState → Prop} {m : Nat} {Pv : Nat → Value → Prop} {St : Nat → Shared → Prop} {R : Result → Shared → Prop} (W : WalksS P w A.in1 I fp wr G m Pv St) (T : Addr) (off : T ∉ fp) (xs : List Str)
    (hm : m = xs.length) (hb : xs.length + 1 < scanBound) (hval : ∀ i v, Pv i v → ∃ x t, xs[i]? = some x ∧ v = .str x t) :
    ∀ (k i : Nat) (s : Shared), m - i = k → i ≤ m → St i s → (∃ c, c ≤ i ∧ TxSet w s.heap T (fun j => decide (j ∈ xs.take i)) c) →
      (∀ s' c, Moved (T :: wr) G s s' → c ≤ m → TxSet w s'.heap T (fun j => decide (j ∈ xs)) c → R (.ok (.ret .none)) s') → codeAny (model P w) A (.builtin "set.update.loop" ⟨[.ref T, .ref I], []⟩) R s := by
  have offw : T ∉ wr := fun z => off (W.sub _ z)
  intro k
  induction k with
  | zero =>
    intro i s hk hi hst ⟨c, hc, hS⟩ hR
    have hin : i = m := by omega
    subst hin
    refine codeAny_builtin F.entry_set_update_loop ?_
    rw [Around.under_plainId F.plain_set_update_loop _]
    show wpAny _ A.in1 (pyNext (.ref I) >>= _) _ _ s
    refine wpAny_bind (W.done s _ _ hst fun s' mv => ?_)
    show wpAny _ A.in1 (ret Value.none) _ _ s'
    rw [List.take_of_length_le (by omega)] at hS
    exact wpAny_pure (hR s' c (mv.mono fun b hb => List.mem_cons_of_mem _ hb) hc (hS.at fun o e => mv.heap T o offw e))
  | succ k ih =>
    intro i s hk hi hst ⟨c, hc, hS⟩ hR
    have hlt : i < m := by omega
    refine codeAny_builtin F.entry_set_update_loop ?_
    rw [Around.under_plainId F.plain_set_update_loop _]
    show wpAny _ A.in1 (pyNext (.ref I) >>= _) _ _ s
    refine wpAny_bind (W.item i s _ _ hlt hst fun v s' hP hst' mv => ?_)
    obtain ⟨z, t, hz, rfl⟩ := hval i v hP
    have hS' : TxSet w s'.heap T (fun j => decide (j ∈ xs.take i)) c := hS.at fun o e => mv.heap T o offw e
    show wpAny _ A.in1 (holding [Value.str z t] (setAdd T (.str z t)) >>= _) _ _ s'
    refine wpAny_bind (wpAny_holding ?_)
    unfold setAdd
    refine wpAny_holding (wpAny_bind ((PySem.strKind P w).pyHash (k := z) (strKind_is _ _ _ _) ?_))
    refine tx_add (s := { s' with toks := s'.toks + 1 }) hS' (by omega) fun h' sb hS2 => ?_
    have hS3 : TxSet w h' T (fun j => decide (j ∈ xs.take (i + 1))) (if decide (z ∈ xs.take i) = true then c else c + 1) := hS2.congr (fun j => by
      rw [List.take_add_one, hz]
      simp [List.mem_append]) rfl
    refine wpAny_pure ⟨plainId_quiet F.plain_set_update_loop _, ih (i + 1) _ (by omega) hlt (W.frame _ s' _ _ hst' (Nat.le_succ _) fun b hb o e => ?_) ⟨_, by split <;> omega, hS3⟩ fun s'' c2 mv2 hc2 hS4 => ?_⟩
    · rw [sb.2 b (fun q : b = T => off (by rw [← q]; exact hb))]
      exact e
    · refine hR s'' c2 (Moved.trans W.gtrans ((mv.mono fun b hb => List.mem_cons_of_mem _ hb).then_heap (Nat.le_succ _) fun b o hb e => ?_) mv2) hc2 hS4
      rw [sb.2 b (fun q : b = T => hb (by rw [q]; exact List.mem_cons_self))]
      exact e
end
end CW

namespace CW
open PySem PySem.Spec PyProof.Rows L2
section
variable {P : Program} {w : World} {A : Around} {E : Value → Shared → Prop} {s : Shared}
/-- an empty set as set(..) makes it -/
abbrev bareSet (w : World) : Obj := { cls := .type "set", dict := none, data := .set #[] 0 (.fresh 0 0 (!w.params.followText "set-order")) }
theorem tx_at {its : List Value} {xs : List Str} (hi : StrsAre its xs) {i : Nat} {v : Value} (hv : its[i]? = some v) : ∃ x t, xs[i]? = some x ∧ v = .str x t := by
  obtain ⟨t, e⟩ := SS.strs_at hi i v hv
  have hlt : i < xs.length := by
    have q := StrsAre.len_eq hi
    have l := (List.getElem?_eq_some_iff.mp hv).1
    omega
  refine ⟨xs[i], t, List.getElem?_eq_getElem hlt, ?_⟩
  rw [e, List.getD_eq_getElem?_getD, List.getElem?_eq_getElem hlt] <;> rfl
theorem tx_set_list {l : Addr} {items : Array Value} (xs : List Str) {Q : Value → Shared → Prop} (hh : A.handled = none) (hl : s.heap.IsList l items) (hit : StrsAre items.toList xs) (hb : xs.length + 1 < scanBound)
    (h : ∀ (h' : Heap) (tk c : Nat), TxSet w h' s.heap.objs.size (fun j => decide (j ∈ xs)) c → c ≤ xs.length → (∀ b o, s.heap.get? b = some o → h'.get? b = some o) → Q (.ref s.heap.objs.size) { s with heap := h', toks := tk }) :
    wpAny (model P w) A (call (.type "set") [.ref l]) Q E s := by
  have many : items.size = xs.length := by
    have q := StrsAre.len_eq hit
    rw [Array.length_toList] at q
    exact q
  obtain ⟨c, tl, hmro⟩ := F.called_set.mro
  have made := F.called_set.made
  have sub := F.called_set.sub
  refine wpAny_call (codeAny_of_tree ?_)
  show wpAny _ _ (callAny (.type "set") _) _ _ _
  refine wpAny_pure ⟨Code.quiet_builtin _ (by decide +kernel), codeAny_builtin F.entry_type_call ?_⟩
  rw [Around.under_plain (weight_type_call_type "set" [.ref l] []) rfl]
  have notType := F.called_set.notType
  have canMake := F.called_set.canCreate
  have typed := F.typeCall_set_1 (.ref l)
  repeat (any_goals (first | assumption | wp_step))
  refine codeAny_mono (code_set_led1 (.ref l) (E := E) (Q₁ := fun obj s₁ => obj = .ref s.heap.objs.size ∧ s₁ = { s with heap := s.heap.push (bareSet w) }) ⟨rfl, rfl⟩) fun r s₁ hr => ?_
  cases r with
  | error e => exact hr
  | ok fl =>
    cases fl with
    | ret obj =>
      obtain ⟨rfl, rfl⟩ := hr
      have hS : (s.heap.push (bareSet w)).get? s.heap.objs.size = some (bareSet w) := Heap.get?_push_size _ rfl
      have hT : Shared.TypeIs { s with heap := s.heap.push (bareSet w) } (.ref s.heap.objs.size) "set" := ⟨_, hS, rfl⟩
      have initAt := F.called_set.init.lookup
      have initBound := F.called_set.init.bind (.ref s.heap.objs.size)
      repeat (any_goals (first | assumption | wp_step))
      refine codeAny_mono (codeAny_call_builtin (R := wants (fun r s₂ => r = .none ∧ ∃ h' tk c, s₂ = { s with heap := h', toks := tk } ∧ TxSet w h' s.heap.objs.size (fun j => decide (j ∈ xs)) c ∧ c ≤ xs.length ∧ (∀ b o, s.heap.get? b = some o → h'.get? b = some o)) E)
        F.called_set.init.plain F.entry_set_init (check_set_init_1 hT ?_)) fun r₂ s₂ hr₂ => ?_
      · obtain ⟨ol, hol, hcl, nl, hdl⟩ := hl
        obtain ⟨ocls, odict, odata, oslots⟩ := ol
        simp only at hcl hdl
        subst hcl; subst hdl
        have hol' : (s.heap.push (bareSet w)).get? l = some { cls := .type "list", dict := odict, data := .seq items nl, slots := oslots } := Heap.get?_push_of_some _ hol
        have noSet := F.sub_list_set
        have noFrozen := F.sub_list_frozenset
        have noDict : (Value.type "list" == Value.type "dict") = false := by decide
        have hl1 : (s.heap.push (bareSet w)).IsList l items := ⟨_, hol', rfl, nl, rfl⟩
        unfold Builtin.«set.__init__» noKeywords Builtin.Frozenset.updateFrom
        generalize hPI : pyIter = PI
        wp_walk
        subst hPI
        refine wpAny_pyIter_list hl1 (wpAny_bind (wpAny_runValue ?_))
        have below : l < s.heap.objs.size := Heap.lt_size hol
        have calm3 : A.in1.in1.in1.handled = none := by simp [hh]
        have size1 : (s.heap.push (bareSet w)).objs.size = s.heap.objs.size + 1 := Heap.size_push ..
        have neI : l ≠ (s.heap.push (bareSet w)).objs.size := by
          rw [size1]
          exact Nat.ne_of_lt (Nat.lt_succ_of_lt below)
        have off : s.heap.objs.size ∉ [(s.heap.push (bareSet w)).objs.size, l] := by
          rw [size1]
          simp only [List.mem_cons, List.mem_singleton, List.not_mem_nil, or_false, not_or]
          exact ⟨Nat.ne_of_lt (Nat.lt_succ_self _), Nat.ne_of_gt below⟩
        have each : ∀ (i : Nat) (v : Value), items[i]? = some v → ∃ x t, xs[i]? = some x ∧ v = .str x t := fun i v hv => tx_at hit (by rw [Array.getElem?_toList]; exact hv)
        refine tx_fill ((Walks.list calm3 _ l neI items).toS) s.heap.objs.size off xs many hb each (items.size - 0) 0 _ (by omega) (Nat.zero_le _) ⟨⟨_, Heap.get?_push_size _ rfl, rfl, rfl⟩, (hl1.push _)⟩ ?begin ?behind
        case begin =>
          have got : ((s.heap.push (bareSet w)).push { cls := .type "list_iterator", data := .fields #[.ref l, .int 0 0] }).get? s.heap.objs.size = some (bareSet w) := Heap.get?_push_of_some _ hS
          exact ⟨0, Nat.le_refl 0, (tx_empty got).congr (fun k => by simp) rfl⟩
        case behind =>
          intro s' c' mv hc' hS'
          obtain ⟨h', g2, d', tk', os'⟩ := s'
          have eg : g2 = s.gens := mv.gens
          have ed : d' = s.drawn := mv.drawn
          have eo : os' = s.os := mv.os
          subst eg; subst ed; subst eo
          show wpAny _ _ _ _ _ _
          refine wpAny_pure ?_
          show wpAny _ _ (ret Value.none) _ _ _
          rw [many] at hc'
          refine wpAny_pure ⟨rfl, h', tk', c', rfl, hS', hc', fun b o e => ?_⟩
          have b0 : b < s.heap.objs.size := Heap.lt_size e
          have b2 : b ≠ (s.heap.push (bareSet w)).objs.size := by
            rw [size1]
            exact Nat.ne_of_lt (Nat.lt_succ_of_lt b0)
          exact mv.heap b o (by simp only [List.mem_cons, List.mem_singleton, List.not_mem_nil, or_false, not_or]; exact ⟨Nat.ne_of_lt b0, b2⟩) (Heap.get?_push_of_some _ (Heap.get?_push_of_some _ e))
      · cases r₂ with
        | error e => exact hr₂
        | ok fl₂ =>
          cases fl₂ with
          | ret r =>
            obtain ⟨rfl, h', tk, c', rfl, hS', hc', hk'⟩ := hr₂
            repeat (any_goals (first | assumption | wp_step))
            exact h _ _ _ hS' hc' hk'
          | _ => exact hr₂.elim
    | _ => exact hr.elim
/-- sorted of such a set: its members, in order -/
theorem tx_sorted {a : Addr} {S : Str → Bool} {n : Nat} {Q : Value → Shared → Prop} (R : TxSet w s.heap a S n) (hh : A.handled = none) (h64 : n < 64)
    (hQ : ∀ s' p (out : Array Value) (c : Nat) (ys : List Str), (∀ b o, s.heap.get? b = some o → s'.heap.get? b = some o) → s'.gens = s.gens → s'.os = s.os → s.heap.objs.size ≤ p →
      s'.heap.get? p = some (seqObj "list" out c) → StrsAre out.toList ys → (∀ k, k ∈ ys ↔ S k = true) → ys.length = n → Q (.ref p) s') :
    wpAny (model P w) A (call (.builtin "sorted") [.ref a]) Q E s := by
  obtain ⟨o, es, ep, t, ⟨ho, hex, hd⟩, ⟨g, nd, hm⟩, ⟨hb, hf, hn⟩, hr, hl⟩ := R
  refine Calls.call_function_entry kind_sorted plain_sorted entry_sorted (args_sorted1 _) ?_
  unfold Builtin.«sorted»
  refine wpAny_bind (m := checkCount "sorted" 1 1 _) (wpAny_pure ?_)
  refine wpAny_bind (collect_set (A := A.in1) hh ⟨o, ho, hex.1, hd⟩ hf hb hr hl fun s1 vs k1 hz g1 o1 pm => ?_)
  have many : vs.length = n := by rw [pm.length_eq, List.length_map, Array.length_toList]; exact hn
  have hS : StrsAre vs (vs.map strOf) := strsAre_map vs fun v hv => by
    obtain ⟨e, he, q⟩ := List.mem_map.mp (pm.mem_iff.mp hv)
    obtain ⟨x, tk, h1, _⟩ := g e he
    exact ⟨x, tk, by rw [← q]; exact h1⟩
  have pk : (vs.map strOf).Perm (es.toList.map txOf) := by
    have q := pm.map strOf
    rw [List.map_map] at q
    exact q
  refine wpAny_bind (wpAny_newList ?_ (by rw [many, sizeLine_eq]; omega))
  have hoL : (s1.heap.push (seqObj "list" vs.toArray 0)).get? s1.heap.objs.size = some (seqObj "list" vs.toArray 0) := Heap.get?_push_size _ rfl
  refine wpAny_bind (wpAny_holding (wpAny_call_entry slot_list_sort ⟨_, hoL, rfl⟩ entry_list_sort (list_sort_treeK strKind_oneLt hoL hS.keysOf (fun v₁ v₂ rest e => keyKind_strs (by rw [← e]; exact hS)) (by rw [many]; exact h64) fun st' hp hs => ⟨_, rfl, ?_⟩) (args_list_sort _)))
  obtain ⟨ys, a1, a2, a3⟩ := sorted_out_str hS hp hs
  obtain ⟨c, hc⟩ := sortedHeap_at (vs := vs) (out := (arrOf st').map (·.2)) hoL
  have pn : ys.Perm (es.toList.map txOf) := a2.trans pk
  refine wpAny_pure ⟨_, rfl, hQ _ s1.heap.objs.size ((arrOf st').map (·.2)) c ys (fun b u e => ?_) g1 o1 hz hc a1 (fun k => by rw [pn.mem_iff, ← hm k]) (by rw [pn.length_eq, List.length_map, Array.length_toList]; exact hn)⟩
  have q := k1 b u e
  have hlt := Heap.lt_size q
  show (sortedHeap (s1.heap.push (seqObj "list" vs.toArray 0)) s1.heap.objs.size vs ((arrOf st').map (·.2))).get? b = some u
  rw [sortedHeap_old (Nat.ne_of_lt hlt) (by rw [size_push']; exact Nat.lt_succ_of_lt hlt)]
  exact Heap.get?_push_of_some _ q
end
/-! ### over the abstract heap -/
def TxO (w : World) (a : Addr) (S : Str → Bool) (n : Nat) : HO := .ext fun h => TxSet w h a S n
theorem tx_ok {w : World} {P : Program} {H : Hp} {h : Heap} {a : Addr} {S : Str → Bool} {n : Nat} (R : TxSet w h a S n) : ObjOk P w H h a (TxO w a S n) := by
  have ⟨o, _, _, _, ⟨ho, _⟩, _⟩ := R
  exact ⟨R, ⟨o, ho⟩, fun h1 h2 p k => TxSet.at p k⟩
section
variable {X : Cx}
/-- set(xs), xs a list of texts -/
def rSetS (K : PySem.W.Frag) (w : World) : List V → Hp → VK → Prop := fun vs H Q => ∃ (l : Addr) (xs : List Str), vs = [V.ref l] ∧ SqL K H l (xs.map V.str) ∧ xs.length ≤ 50 ∧
  ∀ p n, H p = none → n ≤ xs.length → Q (.ref p) (upd H p (TxO w p (fun j => decide (j ∈ xs)) n))
theorem strs_vals : ∀ {xs : List Str} {us : List Value}, Vals (xs.map V.str) us → StrsAre us xs
  | [], _, .nil => .nil
  | x :: xs, _, .cons r t => by
    obtain ⟨k, rfl⟩ := r
    exact .cons x k (strs_vals t)
theorem cr_setS (hc : X.calm = true) : CallR X (.type "set") (rSetS X.K X.w) := by
  intro pins s σ H vs us Q I r h
  obtain ⟨l, xs, rfl, hs, h50, q⟩ := h
  obtain ⟨its, rv, p, _⟩ := I.list hs
  rw [Vals.ref1 r]
  have hi : StrsAre its.toArray.toList xs := by
    rw [List.toList_toArray]
    exact strs_vals rv
  refine tx_set_list xs (I.ok.hd hc) p.isList hi (Nat.lt_of_le_of_lt (Nat.succ_le_succ h50) (by decide)) fun h' tk c hS hcn k => ?_
  exact ⟨.ref _, upd H s.heap.objs.size (TxO X.w s.heap.objs.size (fun j => decide (j ∈ xs)) c), I.laid (t' := tk) k (Nat.le_refl _) (tx_ok hS), rfl, q _ c (I.hok.fresh (Nat.le_refl _)) hcn⟩
/-- sorted(t), t such a set -/
def rSortedSetS (w : World) : List V → Hp → VK → Prop := fun vs H Q => ∃ (a : Addr) (S : Str → Bool) (n : Nat), vs = [V.ref a] ∧ H a = some (TxO w a S n) ∧ n < 64 ∧
  ∀ (ys : List Str) (p : Addr), (∀ k, k ∈ ys ↔ S k = true) → ys.length = n → H p = none → Q (.ref p) (upd H p (.lst (ys.map V.str)))
theorem cr_sortedSetS (hc : X.calm = true) : CallR X (.builtin "sorted") (rSortedSetS X.w) := by
  intro pins s σ H vs us Q I r h
  obtain ⟨a, S, n, rfl, ha, h64, q⟩ := h
  have R : TxSet X.w s.heap a S n := (I.hok a _ ha).1
  rw [Vals.ref1 r]
  refine tx_sorted R (I.ok.hd hc) h64 fun s' p out c ys k g o hp hg hi hm hl => ?_
  have hlen : (ys.map V.str).length ≤ sizeLine := by rw [List.length_map, hl, sizeLine_eq]; omega
  have hn : H p = none := I.hok.fresh hp
  have J : Inv X pins σ (upd H p (.lst (ys.map V.str))) { s with heap := s'.heap, gens := s'.gens, drawn := s'.drawn, toks := s'.toks } :=
    I.call (ch := []) (Un.laid k hp hn) (I.hok.laid k hp ⟨hlen, out.toList, c, vals_of_strs hi, hg⟩) (by rw [g]; exact I.bare) (fun _ z => nomatch z)
  have e : s' = { s with heap := s'.heap, gens := s'.gens, drawn := s'.drawn, toks := s'.toks } := by
    cases s'
    cases s
    cases o
    rfl
  rw [e]
  exact ⟨.ref p, _, J, rfl, q ys p hm hl hn⟩
end
end CW

/-! A rule of our own: list(zip(xs, ys)) of two lists. -/
namespace CW
open PySem PySem.Spec PyProof.Rows L2
theorem zip_no_len : typeLookup (.type "zip") "__len__" = pure none := am_miss_of_fast (by decide +kernel)
theorem zip_no_hint : typeLookup (.type "zip") "__length_hint__" = pure none := am_miss_of_fast (by decide +kernel)
/-- a zip behind i turns, while the list at S is filled from it -/
structure ZipSt (z TI TO i1 i2 l1 l2 S : Addr) (xs ys : List Value) (i : Nat) (h : Heap) : Prop where
  ti : IsPair h TI (.ref i1) (.ref i2)
  a1 : h.IsListIter i1 l1 i
  a2 : h.IsListIter i2 l2 i
  b1 : h.IsList l1 xs.toArray
  b2 : h.IsList l2 ys.toArray
  out : (IsZip h z TI TO .none ∧ ∃ a b, IsPair h TO a b) ∨ ∃ (T : Addr) (f : Bool) (oT : Obj), IsZipHeld h z TI TO T f ∧ h.get? T = some oT ∧ T ≠ z ∧ T ≠ i1 ∧ T ≠ i2 ∧ T ≠ S
section
variable {P : Program} {w : World} {A : Around} {E : Value → Shared → Prop} {s : Shared} {z TI TO i1 i2 l1 l2 S : Addr} {xs ys : List Value} {i : Nat}
/-- S is none of the zip's own things, nor of the lists -/
def Far (z TI TO i1 i2 l1 l2 S : Addr) : Prop := z ≠ S ∧ TI ≠ S ∧ TO ≠ S ∧ i1 ≠ S ∧ i2 ≠ S ∧ l1 ≠ S ∧ l2 ≠ S
theorem ZipSt.keep {h h' : Heap} (st : ZipSt z TI TO i1 i2 l1 l2 S xs ys i h) (far : Far z TI TO i1 i2 l1 l2 S) (k : ∀ b o, b ≠ S → h.get? b = some o → h'.get? b = some o) : ZipSt z TI TO i1 i2 l1 l2 S xs ys i h' := by
  obtain ⟨f1, f2, f3, f4, f5, f6, f7⟩ := far
  refine ⟨k _ _ f2 st.ti, st.a1.at fun o e => k _ o f4 e, st.a2.at fun o e => k _ o f5 e, st.b1.at fun o e => k _ o f6 e, st.b2.at fun o e => k _ o f7 e, ?_⟩
  rcases st.out with ⟨hz, a, b, hTO⟩ | ⟨T, f, oT, hz, hT, r1, r2, r3, r4⟩
  · exact .inl ⟨k _ _ f1 hz, a, b, k _ _ f3 hTO⟩
  · exact .inr ⟨T, f, oT, k _ _ f1 hz, k _ _ r4 hT, r1, r2, r3, r4⟩
theorem zip_item {x y : Value} {Q : Option Value → Shared → Prop} (D : ZipApart z TI TO i1 i2 l1 l2) (st : ZipSt z TI TO i1 i2 l1 l2 S xs ys i s.heap) (hS : S < s.heap.objs.size) (hx : xs[i]? = some x) (hy : ys[i]? = some y)
    (hQ : ∀ h', ZipSt z TI TO i1 i2 l1 l2 S xs ys (i + 1) h' → IsPair h' s.heap.objs.size x y → (∀ c o, c ≠ z → c ≠ TO → c ≠ i1 → c ≠ i2 → s.heap.get? c = some o → h'.get? c = some o) → Q (some (.ref s.heap.objs.size)) { s with heap := h' }) :
    wpAny (model P w) A (pyNext (.ref z)) Q E s := by
  have ex : xs.toArray[i]? = some x := by simpa using hx
  have ey : ys.toArray[i]? = some y := by simpa using hy
  have lt : ∀ {c o}, s.heap.get? c = some o → s.heap.objs.size ≠ c := fun e => Nat.ne_of_gt (Heap.lt_size e)
  have n1 : s.heap.objs.size ≠ i1 := let ⟨_, e, _⟩ := st.a1; lt e
  have n2 : s.heap.objs.size ≠ i2 := let ⟨_, e, _⟩ := st.a2; lt e
  rcases st.out with ⟨hz, a, b, hTO⟩ | ⟨T, f, oT, hz, hT, r1, r2, r3, r4⟩
  · refine wpAny_pyNext_zip_item D hz st.ti hTO st.a1 st.a2 st.b1 st.b2 ex ey fun h' c1 c2 c3 c4 c5 c6 hk => ?_
    exact hQ h' ⟨hk _ _ D.TIz D.TITO D.TIi1 D.TIi2 st.ti, c3, c4, st.b1.at fun o e => hk _ o D.l1z D.l1TO D.l1i1 D.l1i2 e, st.b2.at fun o e => hk _ o D.l2z D.l2TO D.l2i1 D.l2i2 e, .inr ⟨_, false, _, c1, c5, lt hz, n1, n2, Nat.ne_of_gt hS⟩⟩ c5 hk
  · refine wpAny_pyNext_zip_item_held D hz hT st.ti st.a1 st.a2 st.b1 st.b2 ex ey fun h' c1 c3 c4 c5 c6 hk => ?_
    exact hQ h' ⟨hk _ _ D.TIz D.TIi1 D.TIi2 st.ti, c3, c4, st.b1.at fun o e => hk _ o D.l1z D.l1i1 D.l1i2 e, st.b2.at fun o e => hk _ o D.l2z D.l2i1 D.l2i2 e, .inr ⟨T, true, oT, c1, hk _ _ r1 r2 r3 hT, r1, r2, r3, r4⟩⟩ c5 fun c o q1 _ q3 q4 e => hk c o q1 q3 q4 e
theorem zip_end {Q : Option Value → Shared → Prop} (hh : A.handled = none) (D : ZipApart z TI TO i1 i2 l1 l2) (st : ZipSt z TI TO i1 i2 l1 l2 S xs ys i s.heap) (he : xs[i]? = none ∨ ys[i]? = none)
    (hQ : ∀ h', (∀ c o, c ≠ z → c ≠ TO → c ≠ i1 → c ≠ i2 → s.heap.get? c = some o → h'.get? c = some o) → Q none { s with heap := h' }) : wpAny (model P w) A (pyNext (.ref z)) Q E s := by
  have he : xs.toArray[i]? = none ∨ ys.toArray[i]? = none := he.imp (fun q => by simpa using q) fun q => by simpa using q
  rcases st.out with ⟨hz, a, b, hTO⟩ | ⟨T, f, oT, hz, hT, r1, r2, r3, r4⟩
  · exact wpAny_pyNext_zip_end hh D hz st.ti hTO st.a1 st.a2 st.b1 st.b2 he fun h' hk => hQ h' hk
  · exact wpAny_pyNext_zip_end_held hh D hz hT st.ti st.a1 st.a2 st.b1 st.b2 he fun h' hk => hQ h' fun c o q1 _ q3 q4 e => hk c o q1 q3 q4 e
/-- the pairs that were made so far, above lo -/
structure Pairs (xs ys : List Value) (lo : Addr) (h : Heap) (as : List Addr) : Prop where
  rise : as.Pairwise (· < ·)
  above : ∀ a ∈ as, lo < a
  each : ∀ (j : Nat) (a : Addr), as[j]? = some a → ∃ x y, xs[j]? = some x ∧ ys[j]? = some y ∧ IsPair h a x y
theorem Pairs.there {lo : Addr} {h : Heap} {as : List Addr} (g : Pairs xs ys lo h as) {a : Addr} (ha : a ∈ as) : a < h.objs.size := by
  obtain ⟨j, hj⟩ := List.mem_iff_getElem?.mp ha
  obtain ⟨x, y, _, _, e⟩ := g.each j a hj
  exact Heap.lt_size e
/-- all that the zip and the list stand on was made behind h0 -/
def New (h0 : Heap) (z TO i1 i2 S : Addr) : Prop := ∀ b o, h0.get? b = some o → b ≠ z ∧ b ≠ TO ∧ b ≠ i1 ∧ b ≠ i2 ∧ b ≠ S
theorem zip_fill {h0 : Heap} {R : Result → Shared → Prop} {res : Value} (hh : A.handled = none) (D : ZipApart z TI TO i1 i2 l1 l2) (far : Far z TI TO i1 i2 l1 l2 S) (low : z < S ∧ TO < S ∧ i1 < S ∧ i2 < S) (fresh : New h0 z TO i1 i2 S) (hn : xs.length ≤ 1000)
    (hR : ∀ h' tk acc c as, (∀ b o, h0.get? b = some o → h'.get? b = some o) → h'.get? S = some { cls := .type "list", dict := none, data := .seq acc c, slots := #[] } → as.length = min xs.length ys.length → Pairs xs ys S h' as → acc.toList = as.map Value.ref → R (.ok (.ret res)) { s with heap := h', toks := tk }) :
    ∀ (k i : Nat) (h : Heap) (tk c : Nat) (acc : Array Value) (as : List Addr), min xs.length ys.length - i = k → i ≤ min xs.length ys.length → ZipSt z TI TO i1 i2 l1 l2 S xs ys i h → (∀ b o, h0.get? b = some o → h.get? b = some o) →
      h.get? S = some { cls := .type "list", dict := none, data := .seq acc c, slots := #[] } → acc.toList = as.map Value.ref → as.length = i → Pairs xs ys S h as →
      codeAny (model P w) A (.builtin "list.extend.loop" ⟨[.ref S, .ref z, res], []⟩) R { s with heap := h, toks := tk } := by
  obtain ⟨w1, w2, w3, w4⟩ := low
  obtain ⟨f1, f2, f3, f4, f5, f6, f7⟩ := id far
  intro k
  induction k with
  | zero =>
    intro i h tk c acc as hk hi st keep hS hacc hal hG
    have hin : i = min xs.length ys.length := by omega
    refine codeAny_builtin PySem.F.entry_extend_loop ?_
    rw [Around.under_plainId PySem.F.plain_extend_loop _]
    show wpAny _ A.in1 (pyNext (.ref z) >>= _) _ _ _
    have he : xs[i]? = none ∨ ys[i]? = none := by
      by_cases q : xs.length ≤ ys.length
      · exact .inl (List.getElem?_eq_none (by omega))
      · exact .inr (List.getElem?_eq_none (by omega))
    refine wpAny_bind (zip_end (s := { s with heap := h, toks := tk }) (A := A.in1) hh D st he fun h' hk' => ?_)
    dsimp only at hk'
    refine wpAny_pure (hR h' tk acc c as (fun b o e => ?_) (hk' S _ f1.symm f3.symm f4.symm f5.symm hS) (by omega) ⟨hG.rise, hG.above, fun j a hj => ?_⟩ hacc)
    · obtain ⟨n1, n2, n3, n4, _⟩ := fresh b o e
      exact hk' b o n1 n2 n3 n4 (keep b o e)
    · obtain ⟨x, y, e1, e2, e3⟩ := hG.each j a hj
      have q := hG.above a (List.mem_of_getElem? hj)
      exact ⟨x, y, e1, e2, hk' a _ (Nat.ne_of_gt (Nat.lt_trans w1 q)) (Nat.ne_of_gt (Nat.lt_trans w2 q)) (Nat.ne_of_gt (Nat.lt_trans w3 q)) (Nat.ne_of_gt (Nat.lt_trans w4 q)) e3⟩
  | succ k ih =>
    intro i h tk c acc as hk hi st keep hS hacc hal hG
    have hlt : i < min xs.length ys.length := by omega
    have ex : xs[i]? = some xs[i] := List.getElem?_eq_getElem (by omega)
    have ey : ys[i]? = some ys[i] := List.getElem?_eq_getElem (by omega)
    have many : acc.size = i := by rw [← Array.length_toList, hacc, List.length_map, hal]
    have hSl : S < h.objs.size := Heap.lt_size hS
    refine codeAny_builtin PySem.F.entry_extend_loop ?_
    rw [Around.under_plainId PySem.F.plain_extend_loop _]
    show wpAny _ A.in1 (pyNext (.ref z) >>= _) _ _ _
    refine wpAny_bind (zip_item (s := { s with heap := h, toks := tk }) D st hSl ex ey fun h' st' hp hk' => ?_)
    dsimp only at hp hk' ⊢
    have hS' := hk' S _ f1.symm f3.symm f4.symm f5.symm hS
    have up : ∀ b o, b ≠ S → h'.get? b = some o → (h'.update S (Obj.mapSeq (·.push (Value.ref h.objs.size)))).get? b = some o := fun b o hb e => (Heap.get?_update_other _ _ (Ne.symm hb)).trans e
    have nS : h.objs.size ≠ S := Nat.ne_of_gt hSl
    show wpAny _ A.in1 (updateSeq S (·.push (Value.ref h.objs.size)) >>= _) _ _ _
    refine wpAny_bind (wpAny_updateSeq hS' rfl (wpAny_pure ⟨plainId_quiet PySem.F.plain_extend_loop _, ih (i + 1) _ tk _ (acc.push (Value.ref h.objs.size)) (as ++ [h.objs.size]) (by omega) (by omega) (st'.keep far up) (fun b o e => ?_) (Heap.get?_update_self _ hS' rfl) ?_ ?_ ⟨?_, ?_, ?_⟩⟩)
      (by rw [many, sizeLine_eq]; omega) (by show (acc.push (Value.ref h.objs.size)).size ≤ sizeLine + 1; rw [Array.size_push, many, sizeLine_eq]; omega))
    · obtain ⟨n1, n2, n3, n4, n5⟩ := fresh b o e
      exact up b o n5 (hk' b o n1 n2 n3 n4 (keep b o e))
    · rw [Array.toList_push, hacc, List.map_append]
      rfl
    · rw [List.length_append, hal]
      rfl
    · refine List.pairwise_append.mpr ⟨hG.rise, List.pairwise_singleton _ _, fun a ha b hb => ?_⟩
      rw [List.mem_singleton.mp hb]
      exact hG.there ha
    · intro a ha
      rcases List.mem_append.mp ha with ha | ha
      · exact hG.above a ha
      · rw [List.mem_singleton.mp ha]
        exact hSl
    · intro j b hj
      rcases Nat.lt_trichotomy j as.length with q | q | q
      · rw [List.getElem?_append_left q] at hj
        obtain ⟨x, y, e1, e2, e3⟩ := hG.each j b hj
        have t := hG.above b (List.mem_of_getElem? hj)
        exact ⟨x, y, e1, e2, up b _ (Nat.ne_of_gt t) (hk' b _ (Nat.ne_of_gt (Nat.lt_trans w1 t)) (Nat.ne_of_gt (Nat.lt_trans w2 t)) (Nat.ne_of_gt (Nat.lt_trans w3 t)) (Nat.ne_of_gt (Nat.lt_trans w4 t)) e3)⟩
      · subst q
        have e : h.objs.size = b := by simpa using hj
        subst e
        subst hal
        exact ⟨_, _, ex, ey, up _ _ nS hp⟩
      · have no : (as ++ [h.objs.size])[j]? = none := List.getElem?_eq_none (by rw [List.length_append, List.length_singleton]; omega)
        rw [no] at hj
        cases hj
/-- list(a zip) -/
theorem zip_list {h0 : Heap} {Q : Value → Shared → Prop} (hh : A.handled = none) (D : ZipApart z TI TO i1 i2 l1 l2) (hz : IsZip s.heap z TI TO .none) (hTI : IsPair s.heap TI (.ref i1) (.ref i2)) (hTO : ∃ a b, IsPair s.heap TO a b) (h1 : s.heap.IsListIter i1 l1 0) (h2 : s.heap.IsListIter i2 l2 0)
    (hl1 : s.heap.IsList l1 xs.toArray) (hl2 : s.heap.IsList l2 ys.toArray) (fresh : ∀ b o, h0.get? b = some o → b ≠ z ∧ b ≠ TO ∧ b ≠ i1 ∧ b ≠ i2) (keep : ∀ b o, h0.get? b = some o → s.heap.get? b = some o) (hn : xs.length ≤ 1000)
    (hQ : ∀ h' tk acc c as, (∀ b o, h0.get? b = some o → h'.get? b = some o) → h'.get? s.heap.objs.size = some { cls := .type "list", dict := none, data := .seq acc c, slots := #[] } → as.length = min xs.length ys.length → Pairs xs ys s.heap.objs.size h' as → acc.toList = as.map Value.ref → Q (.ref s.heap.objs.size) { s with heap := h', toks := tk }) :
    wpAny (model P w) A (call (.type "list") [.ref z]) Q E s := by
  have lt : ∀ {c o}, s.heap.get? c = some o → c < s.heap.objs.size := fun e => Heap.lt_size e
  obtain ⟨ta, tb, hTO⟩ := hTO
  have z0 := lt hz
  have z1 := lt hTI
  have z2 := lt hTO
  have z3 : i1 < s.heap.objs.size := let ⟨_, e, _⟩ := h1; lt e
  have z4 : i2 < s.heap.objs.size := let ⟨_, e, _⟩ := h2; lt e
  have z5 : l1 < s.heap.objs.size := let ⟨_, e, _⟩ := hl1; lt e
  have z6 : l2 < s.heap.objs.size := let ⟨_, e, _⟩ := hl2; lt e
  have far : Far z TI TO i1 i2 l1 l2 s.heap.objs.size := ⟨Nat.ne_of_lt z0, Nat.ne_of_lt z1, Nat.ne_of_lt z2, Nat.ne_of_lt z3, Nat.ne_of_lt z4, Nat.ne_of_lt z5, Nat.ne_of_lt z6⟩
  have newS : New h0 z TO i1 i2 s.heap.objs.size := fun b o e => by
    obtain ⟨n1, n2, n3, n4⟩ := fresh b o e
    exact ⟨n1, n2, n3, n4, Nat.ne_of_lt (lt (keep b o e))⟩
  have st0 : ZipSt z TI TO i1 i2 l1 l2 s.heap.objs.size xs ys 0 s.heap := ⟨hTI, h1, h2, hl1, hl2, .inl ⟨hz, ta, tb, hTO⟩⟩
  refine callType_codes (Q₁ := fun obj s₁ => obj = .ref s.heap.objs.size ∧ s₁ = { s with heap := s.heap.push { cls := .type "list", data := .seq #[] } }) PySem.F.called_list (PySem.F.typeCall_list_1 _) PySem.F.entry_list_init (code_list_new _ ⟨rfl, rfl⟩) fun obj s₁ e₁ => ?_
  obtain ⟨rfl, rfl⟩ := e₁
  have hS : (s.heap.push { cls := .type "list", data := .seq #[] }).get? s.heap.objs.size = some { cls := .type "list", data := .seq #[] } := Heap.get?_push_size _ rfl
  have st1 : ZipSt z TI TO i1 i2 l1 l2 s.heap.objs.size xs ys 0 (s.heap.push { cls := .type "list", data := .seq #[] }) := st0.keep far fun b o _ e => Heap.get?_push_of_some _ e
  refine ⟨⟨_, hS, rfl⟩, PySem.F.args_list_init_2 _ _, ?_⟩
  show wpAny _ A.in1.in1 (do let old ← Builtin.List.listItems (.ref s.heap.objs.size); Builtin.List.listUpdate (.ref s.heap.objs.size) (fun _ => #[]); letGo old.toList.reverse; Builtin.List.listExtendWith (.ref s.heap.objs.size) (.ref z) .none) _ _ _
  refine wpAny_bind ?_
  unfold Builtin.List.listItems
  refine wpAny_bind (wpAny_seqItems hS rfl (wpAny_pure ?_))
  show wpAny _ _ (updateSeq s.heap.objs.size (fun _ => #[]) >>= fun _ => letGo (#[] : Array Value).toList.reverse >>= fun _ => Builtin.List.listExtendWith (.ref s.heap.objs.size) (.ref z) .none) _ _ _
  refine wpAny_bind (wpAny_updateSeq hS rfl ?_)
  have hS2 := Heap.get?_update_self (Obj.mapSeq (fun _ => (#[] : Array Value))) hS rfl
  have oth : ∀ b o, b ≠ s.heap.objs.size → (s.heap.push { cls := .type "list", data := .seq #[] }).get? b = some o → ((s.heap.push { cls := .type "list", data := .seq #[] }).update s.heap.objs.size (Obj.mapSeq (fun _ => (#[] : Array Value)))).get? b = some o :=
    fun b o hb e => (Heap.get?_update_other _ _ (Ne.symm hb)).trans e
  have st2 := st1.keep far oth
  refine wpAny_bind (wpAny_letGo ?_)
  have hz2 : IsZip ((s.heap.push { cls := .type "list", data := .seq #[] }).update s.heap.objs.size (Obj.mapSeq (fun _ => (#[] : Array Value)))) z TI TO .none := oth _ _ far.1 (Heap.get?_push_of_some _ hz)
  have keep2 : ∀ b o, h0.get? b = some o → ((s.heap.push { cls := .type "list", data := .seq #[] }).update s.heap.objs.size (Obj.mapSeq (fun _ => (#[] : Array Value)))).get? b = some o := fun b o e => oth b o (newS b o e).2.2.2.2 (Heap.get?_push_of_some _ (keep b o e))
  unfold Builtin.List.listExtendWith
  refine wpAny_bind (wpAny_typeOf (T := "zip") ⟨_, hz2, rfl⟩ ?_)
  have e1 : Builtin.List.listSameRef (.ref s.heap.objs.size) (.ref z) = false := by simp [Builtin.List.listSameRef, far.1.symm]
  have e2 : (Value.type "zip" == Value.type "list") = false := by decide
  have e3 : (Value.type "zip" == Value.type "tuple") = false := by decide
  simp only [e1, e2, e3, Bool.or_false, Bool.false_eq_true, if_false]
  refine wpAny_bind (wpAny_pyIter_zip hz2 ?_)
  refine wpAny_bind (wpAny_holding ?_)
  unfold Builtin.List.listLengthHint
  refine wpAny_bind (wpAny_specialOf (T := "zip") ⟨_, hz2, rfl⟩ zip_no_len ?_)
  show wpAny _ A.in1.in1 (specialOf (Value.ref z) (Str.ofString "__length_hint__") >>= _) _ _ _
  refine wpAny_bind (wpAny_specialOf (T := "zip") ⟨_, hz2, rfl⟩ zip_no_hint ?_)
  refine wpAny_pure ?_
  show wpAny _ A.in1.in1 (rule "list.extend.makes-room" >>= fun _ => Builtin.List.listTouch (.ref s.heap.objs.size) >>= fun _ => again (.builtin "list.extend.loop" ⟨[.ref s.heap.objs.size, .ref z, .none], []⟩)) _ _ _
  refine wpAny_bind (wpAny_rule (wpAny_bind ?_))
  show wpAny _ A.in1.in1 (updateSeq s.heap.objs.size (·.push .none) >>= fun _ => updateSeq s.heap.objs.size (·.pop)) _ _ _
  refine wpAny_bind (wpAny_updateSeq hS2 rfl ?_)
  have hS3 := Heap.get?_update_self (Obj.mapSeq (·.push Value.none)) hS2 rfl
  refine wpAny_updateSeq (hz := by seq_fits) hS3 rfl ?_
  have hS4 := Heap.get?_update_self (Obj.mapSeq (·.pop)) hS3 rfl
  have oth2 : ∀ b o, b ≠ s.heap.objs.size → ((s.heap.push { cls := .type "list", data := .seq #[] }).update s.heap.objs.size (Obj.mapSeq (fun _ => (#[] : Array Value)))).get? b = some o → ((((s.heap.push { cls := .type "list", data := .seq #[] }).update s.heap.objs.size (Obj.mapSeq (fun _ => (#[] : Array Value)))).update s.heap.objs.size (Obj.mapSeq (·.push Value.none))).update s.heap.objs.size (Obj.mapSeq (·.pop))).get? b = some o :=
    fun b o hb e => (Heap.get?_update_other _ _ (Ne.symm hb)).trans ((Heap.get?_update_other _ _ (Ne.symm hb)).trans e)
  refine wpAny_pure ⟨plainId_quiet PySem.F.plain_extend_loop _, ?_⟩
  exact zip_fill (s := s) (h0 := h0) (A := A.in1) hh D far ⟨z0, z2, z3, z4⟩ newS hn (fun h' tk acc c as k1 k2 k3 k4 k5 => ⟨rfl, hQ h' tk acc c as k1 k2 k3 k4 k5⟩) _ 0 _ _ _ #[] [] rfl (Nat.zero_le _) (st2.keep far oth2) (fun b o e => oth2 b o (newS b o e).2.2.2.2 (keep2 b o e)) hS4 rfl rfl
    ⟨List.Pairwise.nil, (fun _ ha => nomatch ha), (fun j a hj => by simp at hj)⟩
end
/-! ### over the abstract heap -/
/-- pairs tracked at their addresses -/
def layP : Hp → List Addr → List (V × V) → Hp
  | H, a :: as, p :: ps => layP (upd H a (.tup [p.1, p.2])) as ps
  | H, _, _ => H
theorem layP_off {b : Addr} : ∀ (as : List Addr) (ps : List (V × V)) (H : Hp), b ∉ as → layP H as ps b = H b
  | [], _, _, _ => rfl
  | _ :: _, [], _, _ => rfl
  | a :: as, p :: ps, H, h => by
    show layP (upd H a (.tup [p.1, p.2])) as ps b = H b
    rw [layP_off as ps _ (fun z => h (List.mem_cons_of_mem _ z)), upd_ne (fun z => h (by rw [z]; exact List.mem_cons_self))]
theorem layP_at : ∀ (as : List Addr) (ps : List (V × V)) (H : Hp), as.length = ps.length → as.Nodup → Paired (fun (t : Addr) (p : V × V) => layP H as ps t = some (.tup [p.1, p.2])) as ps
  | [], [], _, _, _ => .nil
  | [], _ :: _, _, h, _ => by cases h
  | _ :: _, [], _, h, _ => by cases h
  | a :: as, p :: ps, H, h, hn => by
    have hn' := List.nodup_cons.mp hn
    have ih := layP_at as ps (upd H a (.tup [p.1, p.2])) (Nat.succ.inj h) hn'.2
    refine .cons ?_ ih
    show layP (upd H a (.tup [p.1, p.2])) as ps a = some (.tup [p.1, p.2])
    rw [layP_off as ps _ hn'.1, upd_same]
/-- list(zip(e, e2)) -/
def tListZip (K : PySem.W.Frag) (ta : TA) : TE := fun σ H Q => ta σ H fun vs H1 => ∃ (a b : Addr) (xs ys : List V), vs = [.ref a, .ref b] ∧ SqL K H1 a xs ∧ SqL K H1 b ys ∧ xs.length ≤ 1000 ∧
  ∀ (H' : Hp) (p : Addr) (ts : List Addr), (∀ b o, H1 b = some o → H' b = some o) → H' p = some (.lst (ts.map V.ref)) → Paired (fun (t : Addr) (q : V × V) => H' t = some (.tup [q.1, q.2])) ts (xs.zip ys) → Q (.ref p) H'
section
variable {X : Cx} {e e2 : Expr} {ta : TA} {p p2 q pos : Pos}
theorem zip_laid {pins : List (Addr × Obj)} {σ : L2.St} {H : Hp} {s : Shared} {h' : Heap} {tk : Nat} {xs ys : List V} {us ws : List Value} {acc : Array Value} {c : Nat} {as : List Addr} {S : Addr} (I : Inv X pins σ H s) (hz : xs.length ≤ 1000) (rx : Vals xs us) (ry : Vals ys ws) (hs : s.heap.objs.size ≤ S)
    (hk : ∀ b o, s.heap.get? b = some o → h'.get? b = some o) (hS : h'.get? S = some { cls := .type "list", dict := none, data := .seq acc c, slots := #[] }) (hl : as.length = min us.length ws.length) (hG : Pairs us ws S h' as) (hacc : acc.toList = as.map Value.ref) :
    ∃ H' : Hp, (∀ b o, H b = some o → H' b = some o) ∧ H' S = some (.lst (as.map V.ref)) ∧ Paired (fun (t : Addr) (q : V × V) => H' t = some (.tup [q.1, q.2])) as (xs.zip ys) ∧ Inv X pins σ H' { s with heap := h', toks := tk } := by
  have lx := rx.length
  have ly := ry.length
  have la : as.length = (xs.zip ys).length := by rw [List.length_zip]; omega
  have notS : S ∉ as := fun z => Nat.lt_irrefl _ (hG.above _ z)
  have nd : as.Nodup := List.Pairwise.imp (fun {a b} (h : a < b) => Nat.ne_of_lt h) hG.rise
  have new : ∀ t ∈ as, H t = none := fun t ht => I.hok.fresh (Nat.le_trans hs (Nat.le_of_lt (hG.above t ht)))
  have newS : H S = none := I.hok.fresh hs
  have atP := layP_at as (xs.zip ys) (upd H S (.lst (as.map V.ref))) la nd
  have off : ∀ b, b ∉ as → b ≠ S → layP (upd H S (.lst (as.map V.ref))) as (xs.zip ys) b = H b := fun b h1 h2 => by rw [layP_off as _ _ h1, upd_ne h2]
  have low : ∀ b o, s.heap.get? b = some o → b ∉ as ∧ b ≠ S := fun b o e => ⟨fun z => absurd (Nat.lt_of_lt_of_le (Heap.lt_size e) hs) (Nat.not_lt.mpr (Nat.le_of_lt (hG.above b z))), Nat.ne_of_lt (Nat.lt_of_lt_of_le (Heap.lt_size e) hs)⟩
  have kp : ∀ b u, H b = some u → (layP (upd H S (.lst (as.map V.ref))) as (xs.zip ys)) b = some u := fun b u e => by
    rw [off b (fun z => by rw [new b z] at e; cases e) (fun z => by rw [z, newS] at e; cases e)]
    exact e
  have eS : layP (upd H S (.lst (as.map V.ref))) as (xs.zip ys) S = some (.lst (as.map V.ref)) := by rw [layP_off as _ _ notS, upd_same]
  refine ⟨layP (upd H S (.lst (as.map V.ref))) as (xs.zip ys), kp, eS, atP, ?_⟩
  refine I.call' (ch := []) rfl ⟨fun b o q _ _ _ => hk b o q, fun b o q _ _ _ => ⟨o.slots, hk b o q⟩, fun b o q n _ => ?_, fun b o q _ => ⟨o, hk b o q⟩, fun b xs q => kp b _ q, fun b o u q => kp b _ q, fun b ps q => ⟨#[], by rw [kp b _ q]; simp⟩⟩ (fun b u q => ?_) I.bare fun b z => by simp at z
  · obtain ⟨z1, z2⟩ := low b o q
    rw [off b z1 z2]
    exact n
  · by_cases hb : b ∈ as
    · obtain ⟨j, pk, e1, e2, e3⟩ := LiI.paired_ix atP hb
      rw [e3] at q
      cases q
      obtain ⟨u1, u2, f1, f2, f3⟩ := hG.each j b e1
      obtain ⟨g1, g2⟩ := List.getElem?_zip_eq_some.mp e2
      obtain ⟨v1, h1, r1⟩ := rx.get g1
      obtain ⟨v2, h2, r2⟩ := ry.get g2
      rw [f1] at h1
      rw [f2] at h2
      cases h1
      cases h2
      exact ⟨by show 2 ≤ sizeLine; decide, [_, _], .cons r1 (.cons r2 .nil), ⟨_, f3, rfl, _, rfl⟩⟩
    · by_cases hb2 : b = S
      · rw [hb2] at q ⊢
        rw [eS] at q
        cases q
        refine ⟨?_, acc.toList, c, by rw [hacc]; exact LiI.vals_refs as, ?_⟩
        · rw [List.length_map, sizeLine_eq]
          omega
        · rw [Array.toArray_toList]
          exact hS
      · rw [off b hb hb2] at q
        exact (I.hok b u q).stay (fun d v _ y => hk d v y) (fun d y => kp d _ y) fun d xs y => kp d _ y
theorem pe_listZip (hc : X.calm = true) (hgl : Gl X "list") (hml : X.mg "list" = none) (hgz : Gl X "zip") (hmz : X.mg "zip" = none) (ha : PA X [e, e2] ta)
    (hs : starEach [e, e2] X.env = (false, eval e X.env) :: starEach [e2] X.env := by rfl) (hpl : (backTo q (starEach [e2] X.env)).any (·.1) = false := by rfl)
    (hs1 : starEach [.Call (.Name "zip" p2) [e, e2] [] q] X.env = (false, eval (.Call (.Name "zip" p2) [e, e2] [] q) X.env) :: starEach [] X.env := by rfl) :
    PE X (.Call (.Name "list" p) [.Call (.Name "zip" p2) [e, e2] [] q] [] pos) (tListZip X.K ta) := by
  refine ⟨fun pins s σ H Q I hq => ?_⟩
  refine wpAny_Call_Name_kw (ld_blt I hgl hml PyProof.Rows.boot_list ?_)
  refine PyProof.Rows.callWith_type1 ?_ hs1 rfl
  rw [hs1]
  show wpAny _ _ (spliced ((false, eval (.Call (.Name "zip" p2) [e, e2] [] q) X.env) :: backTo pos (starEach [] X.env))) _ _ s
  refine Calls.spliced_cons ?_
  refine Call_ (ld_blt I hgz hmz PyProof.Rows.boot_zip (PyProof.Rows.callWith_type1 (thn (ha.run q pins s σ H _ I hq) fun us s1 ⟨vs, H1, I1, r1, q1⟩ => ?_) hs hpl))
  obtain ⟨a, b, xs, ys, ex, qx, qy, hz, q2⟩ := q1
  subst ex
  cases r1 with
  | cons r rr =>
    cases rr with
    | cons r' rr =>
      cases rr
      cases r
      cases r'
      obtain ⟨its, rv, l1, _⟩ := I1.list qx
      obtain ⟨its2, rv2, l2, _⟩ := I1.list qy
      refine call_zip_2 l1.isList l2.isList fun h' zz zI zO j1 j2 size hk => ?_
      refine Calls.spliced_nil ?_
      have lx := rv.length
      refine zip_list (s := { s1 with heap := h' }) (h0 := s1.heap) (I1.ok.hd hc) (PySem.W.ktu_apart s1.heap.objs.size a b l1.lt l2.lt) zz zI ⟨_, _, zO⟩ j1 j2 (l1.isList.at fun o e => hk _ o e) (l2.isList.at fun o e => hk _ o e) (fun b o e => ?_) hk (by omega) fun h'' tk acc c as k1 k2 k3 k4 k5 => ?_
      · have hlt := Heap.lt_size e
        exact ⟨Nat.ne_of_lt (Nat.lt_of_lt_of_le hlt (Nat.le_add_right _ _)), Nat.ne_of_lt (Nat.lt_of_lt_of_le hlt (Nat.le_add_right _ _)), Nat.ne_of_lt hlt, Nat.ne_of_lt (Nat.lt_of_lt_of_le hlt (Nat.le_add_right _ _))⟩
      · obtain ⟨H', m1, m2, m3, J⟩ := zip_laid (tk := tk) I1 hz rv rv2 (by show s1.heap.objs.size ≤ h'.objs.size; omega) k1 k2 k3 k4 k5
        exact ⟨.ref _, H', J, rfl, q2 H' _ as m1 m2 m3⟩
end
end CW

namespace CW
open PySem L2
section
variable {P : Program} {w : World} {K : PySem.W.Frag} {mg : Str → Option Value} {base : Heap} {f : Addr} {fd : FuncData}
/-! ### names_of -/
theorem scNames : FnScope ["one", "other", "field"] ["one", "other"] (defScope sNames) := ⟨rfl, rfl, rfl, by decide +kernel, rfl, by decide +kernel, by decide +kernel⟩
def spNames (K : PySem.W.Frag) : Sp := fun vs H Q _ => ∃ (v u : V) (fs gs : List Fd) (o p : Bool), vs = [v, u] ∧ KAt K H v (.row fs o) ∧ KAt K H u (.row gs p) ∧ fs.length ≤ 3 ∧ gs.length ≤ 3 ∧
  ∀ (ys : List Str) (q : Addr) (H' : Hp), Same H H' → H' q = some (.lst (ys.map V.str)) → (∀ x, x ∈ ys ↔ x ∈ names fs ∨ x ∈ names gs) → ys.length ≤ 6 → Q (.ref q) H'
/-- a field's name -/
def teField (K : PySem.W.Frag) : TE := tOp (rIxT K) (tVar 2) (tC (.int 0))
theorem names_comp {σ : L2.St} {H : Hp} {v : V} {slot : Nat} {fs : List Fd} {o : Bool} {Q : V → Hp → Prop} (h2 : 2 < σ.length) (h : σ[slot]? = some (some v)) (hv : KAt K H v (.row fs o)) (h3 : fs.length ≤ 3) (hQ : ∀ D H', Same H H' → H' D = some (.lst ((names fs).map V.str)) → Q (.ref D) H') :
    tLc (iTup K (tOp (rIxT K) (tVar slot) (tC (.int 1)))) (gName 2) tYes (teField K) [2] σ H Q := by
  obtain ⟨p, a, ws, rfl, r1, r2, r3⟩ := hv.row
  have hl : ws.length = fs.length := (dps_len r3).trans (encs_len fs)
  refine ⟨_, h, p, _, _, _, rfl, rfl, r1, atI_nat (j := 1) rfl, a, rfl, ⟨_, r2⟩, fun D hD => lc_it (walk_tup (K := K) (a := a) (xs := ws)) (fun i H2 => Same H H2 ∧ H2 D = some (.lst (((names fs).take i).map V.str))) ⟨same_new hD _, upd_same⟩ (fun i H2 _ ⟨s2, _⟩ => (same_tk s2).seqT r2) ?_ ?_⟩
  · rintro i y H2 H3 hi ⟨s2, e2⟩ ⟨rfl, hy⟩
    have hi : i < ws.length := hi
    obtain ⟨n, m, k, t, z, e1, rfl, e3, e4⟩ := flds_at r3 hy
    have fx : (names fs)[i]? = some n := by
      show (fs.map fun f => f.1)[i]? = _
      rw [List.getElem?_map, e1]
      rfl
    have at2 : ((wipe σ [2]).set 2 (some (V.ref t)))[2]? = some (some (V.ref t)) := by
      show ((σ.set 2 none).set 2 (some (V.ref t)))[2]? = _
      rw [List.set_set, List.getElem?_set_self h2]
    refine ⟨?_, yesT ⟨_, at2, t, _, _, _, rfl, rfl, (same_tk s2).seqT e3, atI_nat (j := 0) rfl, ?_⟩⟩
    · show ((σ.set 2 none).set 2 (some (V.ref t))).set 2 none = σ.set 2 none
      rw [List.set_set, List.set_set]
    · refine ⟨_, e2, small100 (by rw [List.length_map, List.length_take]; omega), same_at s2 hD, ?_⟩
      rw [upd_same, take_one fx, List.map_append]
      rfl
  · rintro H2 ⟨s2, e2⟩
    have lfs : (names fs).length = ws.length := by
      unfold names
      rw [List.length_map, hl]
    rw [← lfs, List.take_length] at e2
    exact hQ D H2 s2 e2
theorem ok_names (F : Fun K "names_of" "names_of" sNames f fd) (G : Glb K mg) : FnOk P w K mg base CX0 1 f fd ["one", "other"] (spNames K) := by
  refine F.ok scNames (fun vs H Q E h => ?_) (fun cdv A outer s H vs Q E hr h => ?_)
  · obtain ⟨v, u, fs, gs, o, p, rfl, _⟩ := h
    rfl
  obtain ⟨v, u, fs, gs, o, p, rfl, hv, hu, f3, g3, q⟩ := h
  have nd := scNames.nd
  refine ⟨_, pss_one (ps_ret (pe_callB (cr_sortedSetS rfl) rfl G.sorted (by decide +kernel) (pa_cons (pe_callTy (cr_setS rfl) rfl G.set PyProof.Rows.boot_set (pa_cons (pe_op op_cat
    (pe_lc (own := [("field", 2)]) (g := gName 2) (tt := tYes) (te := teField K) rfl nd (pi_tup (pe_ix ix_tup (pv 0) pe_int (fun _ _ => rfl))) (blkOk_by (own := [("field", 2)]) (N := ["one", "other", "field"]) (sc := defScope sNames) (by decide +kernel))
      (fun _ _ _ _ _ => pg_name (i := 2) nd rfl (Or.inl rfl)) (fun _ _ _ _ _ => pts_nil) (fun _ _ _ _ _ => pe_ix ix_tup (pv 2) pe_int (fun _ _ => rfl)))
    (pe_lc (own := [("field", 2)]) (g := gName 2) (tt := tYes) (te := teField K) rfl nd (pi_tup (pe_ix ix_tup (pv 1) pe_int (fun _ _ => rfl))) (blkOk_by (own := [("field", 2)]) (N := ["one", "other", "field"]) (sc := defScope sNames) (by decide +kernel))
      (fun _ _ _ _ _ => pg_name (i := 2) nd rfl (Or.inl rfl)) (fun _ _ _ _ _ => pts_nil) (fun _ _ _ _ _ => pe_ix ix_tup (pv 2) pe_int (fun _ _ => rfl)))) pa_nil)) pa_nil))), ?_⟩
  refine names_comp (σ := L2.start ["one", "other", "field"] [v, u]) (slot := 0) (fs := fs) (o := o) (Q := fun x H1 => tLc (iTup K (tOp (rIxT K) (tVar 1) (tC (.int 1)))) (gName 2) tYes (teField K) [2] (L2.start ["one", "other", "field"] [v, u]) H1
    fun y H2 => rCat x y H2 fun z H3 => rSetS K w [z] H3 fun t H4 => rSortedSetS w [t] H4 Q) (by show 2 < 3; decide) rfl hv f3 fun D1 H1 s1 e1 => ?_
  refine names_comp (σ := L2.start ["one", "other", "field"] [v, u]) (slot := 1) (fs := gs) (o := p) (Q := fun y H2 => rCat (.ref D1) y H2 fun z H3 => rSetS K w [z] H3 fun t H4 => rSortedSetS w [t] H4 Q) (by show 2 < 3; decide) rfl (hu.tk (same_tk s1)) g3 fun D2 H2 s2 e2 => ?_
  have l1 : (names fs).length ≤ 3 := by
    unfold names
    rw [List.length_map]
    exact f3
  have l2 : (names gs).length ≤ 3 := by
    unfold names
    rw [List.length_map]
    exact g3
  refine ⟨D1, D2, _, _, rfl, rfl, s2 _ _ e1, e2, small40 (by rw [List.length_map, List.length_map]; omega), fun l hl => ?_⟩
  refine ⟨l, names fs ++ names gs, rfl, SqL.of (by rw [upd_same, List.map_append]), by rw [List.length_append]; omega, fun q' n hq hn => ?_⟩
  rw [List.length_append] at hn
  refine ⟨q', _, n, rfl, upd_same, by omega, fun ys r hm hlen hr => ?_⟩
  refine q ys r _ (((s1.trans s2).trans (same_new hl _)).trans ((same_new hq _).trans (same_new hr _))) upd_same (fun x => ?_) (by omega)
  rw [hm x, decide_eq_true_eq, List.mem_append]
/-! ### entry_less -/
theorem free_at (G : Glb K mg) : ∃ a, mg "FREE" = some (.ref a) ∧ ∀ H, EAt K H (.ref a) .free := by
  obtain ⟨a, m, t⟩ := G.free
  refine ⟨a, m, fun H => ?_⟩
  show Dp K H (.ref a) (encE .free)
  simp only [encE]
  exact .tup (t H) (.cons (.str _) .nil)
theorem none_at (G : Glb K mg) : ∃ a, mg "NONE" = some (.ref a) ∧ ∀ H, EAt K H (.ref a) .none := by
  obtain ⟨a, m, t⟩ := G.non
  refine ⟨a, m, fun H => ?_⟩
  show Dp K H (.ref a) (encE .none)
  simp only [encE]
  exact .tup (t H) (.cons (.str _) .nil)
theorem any_at (G : Glb K mg) : ∃ a, mg "ANY" = some (.ref a) ∧ ∀ H, KAt K H (.ref a) .any := by
  obtain ⟨a, m, t⟩ := G.any
  refine ⟨a, m, fun H => ?_⟩
  exact .close (k := .any) (t H) .nil
theorem EAt.some {H : Hp} {v : V} {m : Bool} {k : Kd} (h : EAt K H v (.some m k)) : ∃ p y, v = .ref p ∧ SqT K H p [.str (markS m), y] ∧ KAt K H y k := by
  have h : Dp K H v (encE (.some m k)) := h
  simp only [encE] at h
  obtain ⟨p, xs, rfl, q, l⟩ := dp_tup h
  obtain ⟨x, xs, rfl, h1, l⟩ := dps_cons l
  obtain ⟨y, ys, rfl, h2, l⟩ := dps_cons l
  obtain rfl := dps_nil l
  obtain rfl := dp_str h1
  exact ⟨p, y, rfl, q, h2⟩
theorem dec_mark (a b : Bool) : decide (V.str (markS a) = V.str (markS b)) = (a == b) := by cases a <;> cases b <;> decide +kernel
theorem scEL : FnScope ["one", "other"] ["one", "other"] (defScope sEntryLess) := ⟨rfl, rfl, rfl, by decide +kernel, rfl, by decide +kernel, by decide +kernel⟩
def spEL (K : PySem.W.Frag) (n : Nat) : Sp := fun vs H Q _ => ∃ (v u : V) (d e : En), vs = [v, u] ∧ EAt K H v d ∧ EAt K H u e ∧ WfE n d ∧ WfE n e ∧ n ≤ 4 ∧ ∀ H', Same H H' → Q (.bl (leE (lek n) d e)) H'
def spLess (K : PySem.W.Frag) (n : Nat) : Sp := fun vs H Q _ => ∃ (v u : V) (a b : Kd), vs = [v, u] ∧ KAt K H v a ∧ KAt K H u b ∧ Wf n a ∧ Wf n b ∧ n ≤ 4 ∧ ∀ H', Same H H' → Q (.bl (lek n a b)) H'
theorem ok_EL {n : Nat} (F : Fun K "entry_less" "entry_less" sEntryLess f fd) (G : Glb K mg) (CL : Cal P w K mg base (2 * n + 2) "less_known" ["one", "other"] (spLess K n)) : FnOk P w K mg base CX0 (2 * n + 3) f fd ["one", "other"] (spEL K n) := by
  obtain ⟨gL, dL, GL, bL, kL, mL⟩ := CL
  obtain ⟨aF, mF, tF⟩ := free_at G
  obtain ⟨aN, mN, tN⟩ := none_at G
  refine F.ok scEL (fun vs H Q E h => ?_) (fun cdv A outer s H vs Q E hr h => ?_)
  · obtain ⟨v, u, d, e, rfl, _⟩ := h
    rfl
  obtain ⟨v, u, d, e, rfl, hv, hu, wd, we, h4, q⟩ := h
  have un := hr.units
  refine ⟨_, pss_cons (ps_if (pt_cmpR (op_eqD un) (pv 0) (pe_glob rfl mF (v := .ref aF) rfl) (nomark _)) (pss_one (ps_ret pe_bl)) pss_nil)
    (pss_cons (ps_if (PW.pt (pw_or (pt_cmpR (op_eqD un) (pv 0) (pe_glob rfl mN (v := .ref aN) rfl) (nomark _)) (pw_or (pt_cmpR (op_eqD un) (pv 1) (pe_glob rfl mN (v := .ref aN) rfl) (nomark _)) (pw_or1 (pt_cmpR (op_eqD un) (pv 1) (pe_glob rfl mF (v := .ref aF) rfl) (nomark _))))))
      (pss_one (ps_ret (pe_cmpR (op_eqD un) (pv 0) (pv 1) (nomark _)))) pss_nil)
    (pss_one (ps_ret (pe_and (pe_cmpR op_eq (pe_ix ix_tup (pv 0) pe_int (fun _ _ => rfl)) (pe_ix ix_tup (pv 1) pe_int (fun _ _ => rfl)) (nomark _))
      (pe_one (pe_call GL hr rfl mL kL bL .nil pass0 (pa_cons (pe_ix ix_tup (pv 0) pe_int (fun _ _ => rfl)) (pa_cons (pe_ix ix_tup (pv 1) pe_int (fun _ _ => rfl)) pa_nil)))))))), ?_⟩
  have sd : SeqAt.shaped (encE d) = true := shaped_encE wd (by omega)
  have se : SeqAt.shaped (encE e) = true := shaped_encE we (by omega)
  have sF : SeqAt.shaped (encE .free) = true := by decide +kernel
  have sN : SeqAt.shaped (encE .none) = true := by decide +kernel
  refine ⟨_, rfl, _, _, hv, tF H, sd, sF, _, rfl, ?_⟩
  rw [encE_free]
  cases ef : isFree d with
  | true =>
    refine iteT ?_
    have z := q H (Same.refl H)
    cases d with
    | free => exact z
    | none => cases ef
    | some m k => cases ef
  | false =>
    refine iteF ?_
    have low : (isNone d || isNone e || isFree e) = true → (tRet (tOp (rEqD K) (tVar 0) (tVar 1))) { nx := fun _ H' => Q .non H', rt := Q } (L2.start ["one", "other"] [v, u]) H := fun c => by
      have z := q H (Same.refl H)
      rw [← encE_low ef c] at z
      exact ⟨_, rfl, _, rfl, _, _, hv, hu, sd, se, z⟩
    refine ⟨_, rfl, _, _, hv, tN H, sd, sN, _, rfl, ?_⟩
    rw [encE_none]
    cases en : isNone d with
    | true => exact iteT (iteT (low (by rw [en]; rfl)))
    | false =>
      refine iteF ?_
      refine ⟨_, rfl, _, _, hu, tN H, se, sN, _, rfl, ?_⟩
      rw [encE_none]
      cases en2 : isNone e with
      | true => exact iteT (iteT (low (by rw [en, en2]; rfl)))
      | false =>
        refine iteF ?_
        refine ⟨_, rfl, _, _, hu, tF H, se, sF, _, rfl, ?_⟩
        rw [encE_free]
        cases ef2 : isFree e with
        | true => exact iteT (low (by rw [en, en2, ef2]; rfl))
        | false =>
          refine iteF ?_
          cases d with
          | free => cases ef
          | none => cases en
          | some m k =>
            cases e with
            | free => cases ef2
            | none => cases en2
            | some m' k' =>
              obtain ⟨p, y, rfl, p1, p2⟩ := hv.some
              obtain ⟨p', y', rfl, p1', p2'⟩ := hu.some
              refine ⟨_, rfl, p, _, _, _, rfl, rfl, p1, atI_nat (j := 0) rfl, _, rfl, p', _, _, _, rfl, rfl, p1', atI_nat (j := 0) rfl, rfl, _, rfl, ?_⟩
              rw [dec_mark]
              refine ite2 (fun c => ?_) (fun c => ?_)
              · refine ⟨_, rfl, p, _, _, _, rfl, rfl, p1, atI_nat (j := 1) rfl, _, rfl, p', _, _, _, rfl, rfl, p1', atI_nat (j := 1) rfl, y, y', k, k', rfl, p2, p2', wd, we, h4, fun H' s' => ?_⟩
                have z := q H' s'
                have e1 : leE (lek n) (.some m k) (.some m' k') = lek n k k' := by
                  show (m == m' && lek n k k') = lek n k k'
                  rw [c]
                  rfl
                rw [e1] at z
                exact z
              · have z := q H (Same.refl H)
                have e1 : leE (lek n) (.some m k) (.some m' k') = false := by
                  show (m == m' && lek n k k') = false
                  rw [Bool.eq_false_iff.mpr c]
                  rfl
                rw [e1] at z
                exact z
end
end CW

namespace CW
open PySem L2 PySem.Spec PyProof.Rows
section
variable {P : Program} {w : World} {K : PySem.W.Frag} {mg : Str → Option Value} {base : Heap} {f : Addr} {fd : FuncData}
/-! ### less_known -/
theorem scLess : FnScope ["one", "other", "name", "pairs", "first", "second"] ["one", "other"] (defScope sLess) := ⟨rfl, rfl, rfl, by decide +kernel, rfl, by decide +kernel, by decide +kernel⟩
/-- a pair's kinds, held against one another -/
def tePair (K : PySem.W.Frag) (n : Nat) : TE := tCall (spLess K n) [] E0 (tCons (tOp (rIxT K) (tVar 4) (tC (.int 1))) (tCons (tOp (rIxT K) (tVar 5) (tC (.int 1))) tNil))
theorem row_of {k : Kd} (h : tag k = 5) : ∃ fs o, k = .row fs o := by
  cases k with
  | row fs o => exact ⟨fs, o, rfl⟩
  | _ => exact absurd h (by simp [tag])
theorem ok_less {n : Nat} (F : Fun K "less_known" "less_known" sLess f fd) (G : Glb K mg) (CE : Cal P w K mg base 1 "entry_of" ["kind", "name"] (spEntry K)) (CN : Cal P w K mg base 1 "names_of" ["one", "other"] (spNames K))
    (CW : Cal P w K mg base 1 "kinds_within" ["kind"] (spWithin K)) (CEL : Cal P w K mg base (2 * n + 3) "entry_less" ["one", "other"] (spEL K n)) (CL : Cal P w K mg base (2 * n + 2) "less_known" ["one", "other"] (spLess K n)) :
    FnOk P w K mg base CX0 (2 * n + 4) f fd ["one", "other"] (spLess K (n + 1)) := by
  obtain ⟨gE, dE, GE, bE, kE, mE⟩ := CE
  obtain ⟨gN, dN, GN, bN, kN, mN⟩ := CN
  obtain ⟨gW, dW, GW, bW, kW, mW⟩ := CW
  obtain ⟨gX, dX, GX, bX, kX, mX⟩ := CEL
  obtain ⟨gL, dL, GL, bL, kL, mL⟩ := CL
  obtain ⟨aA, mA, tA⟩ := any_at G
  refine F.ok scLess (fun vs H Q E h => ?_) (fun cdv A outer s H vs Q E hr h => ?_)
  · obtain ⟨v, u, a, b, rfl, _⟩ := h
    rfl
  obtain ⟨v, u, a, b, rfl, hv, hu, wa, wb, h4, q⟩ := h
  have nd := scLess.nd
  have un := hr.units
  have hr1 : Room 1 _ := hr.mono (by omega)
  have hr2 : Room (2 * n + 2) _ := hr.mono (by omega)
  refine ⟨_, pss_cons (ps_if (pt_cmpR (op_eqD un) (pv 0) (pe_glob rfl mA (v := .ref aA) rfl) (nomark _)) (pss_one (ps_ret pe_bl)) pss_nil)
    (pss_cons (ps_if (pt_cmpR op_ne (pe_ix ix_tup (pv 0) pe_int (fun _ _ => rfl)) (pe_ix ix_tup (pv 1) pe_int (fun _ _ => rfl)) (nomark _)) (pss_one (ps_ret pe_bl)) pss_nil)
    (pss_cons (ps_if (pt_cmpR op_eq (pe_ix ix_tup (pv 0) pe_int (fun _ _ => rfl)) pe_str (nomark _))
      (pss_cons (ps_if (PW.pt (pw_and (pt_val (pe_ix ix_tup (pv 1) pe_int (fun _ _ => rfl))) (pw_and1 (pt_not (pt_val (pe_ix ix_tup (pv 0) pe_int (fun _ _ => rfl))))))) (pss_one (ps_ret pe_bl)) pss_nil)
      (pss_one (ps_ret (pe_callB (cr_all rfl) rfl G.all (by decide +kernel) (pa_cons (pe_lc (own := [("name", 2)]) (g := gName 2) (tt := tYes) rfl nd (pi_list (pe_call GN hr1 rfl mN kN bN .nil pass0 (pa_cons (pv 0) (pa_cons (pv 1) pa_nil))))
        (blkOk_by (own := [("name", 2)]) (N := ["one", "other", "name", "pairs", "first", "second"]) (sc := defScope sLess) (by decide +kernel)) (fun _ _ _ _ _ => pg_name (i := 2) nd rfl (Or.inl rfl)) (fun _ _ _ _ _ => pts_nil)
        (fun _ _ _ _ _ => pe_call GX hr rfl mX kX bX .nil pass0 (pa_cons (pe_call GE hr1 rfl mE kE bE .nil pass0 (pa_cons (pv 0) (pa_cons (pv 2) pa_nil))) (pa_cons (pe_call GE hr1 rfl mE kE bE .nil pass0 (pa_cons (pv 1) (pa_cons (pv 2) pa_nil))) pa_nil)))) pa_nil))))) pss_nil)
    (pss_cons (ps_set (i := 3) nd rfl (Or.inl rfl) (pe_listZip rfl rfl G.list rfl G.zip (pa_cons (pe_call GW hr1 rfl mW kW bW .nil pass0 (pa_cons (pv 0) pa_nil)) (pa_cons (pe_call GW hr1 rfl mW kW bW .nil pass0 (pa_cons (pv 1) pa_nil)) pa_nil))))
    (pss_one (ps_ret (pe_callB (cr_all rfl) rfl G.all (by decide +kernel) (pa_cons (pe_lc (own := [("first", 4), ("second", 5)]) (g := gTup K 2 (gCons (gName 4) (gCons (gName 5) gNil))) (tt := tYes) (te := tePair K n) rfl nd (pi_list (pv 3))
        (blkOk_by (own := [("first", 4), ("second", 5)]) (N := ["one", "other", "name", "pairs", "first", "second"]) (sc := defScope sLess) (by decide +kernel))
        (fun _ _ _ _ _ => pg_tup rfl (pgs_cons (pg_name (i := 4) nd rfl (Or.inl rfl)) (pgs_cons (pg_name (i := 5) nd rfl (Or.inl rfl)) pgs_nil))) (fun _ _ _ _ _ => pts_nil)
        (fun _ _ _ _ _ => pe_call GL hr2 rfl mL kL bL .nil pass0 (pa_cons (pe_ix ix_tup (pv 4) pe_int (fun _ _ => rfl)) (pa_cons (pe_ix ix_tup (pv 5) pe_int (fun _ _ => rfl)) pa_nil)))) pa_nil))))))), ?_⟩
  have sa : SeqAt.shaped (enc a) = true := shaped_enc wa (by omega)
  have sA : SeqAt.shaped (enc .any) = true := by decide +kernel
  refine ⟨_, rfl, _, _, hv, tA H, sa, sA, _, rfl, ?_⟩
  rw [enc_any]
  cases ea : isAny a with
  | true =>
    refine iteT ?_
    have z := q H (Same.refl H)
    cases a with
    | any => exact z
    | _ => cases ea
  | false =>
    refine iteF ?_
    obtain ⟨p, vs, rfl, v1, v2⟩ := id hv.open
    obtain ⟨p', us, rfl, u1, u2⟩ := id hu.open
    refine ⟨_, rfl, p, _, _, _, rfl, rfl, v1, atI_nat (j := 0) rfl, _, rfl, p', _, _, _, rfl, rfl, u1, atI_nat (j := 0) rfl, rfl, _, rfl, ?_⟩
    by_cases hh : headS a = headS b
    · refine iteNS (by rw [hh]) ?_
      refine ⟨_, rfl, p, _, _, _, rfl, rfl, v1, atI_nat (j := 0) rfl, rfl, _, rfl, ?_⟩
      rw [show decide (V.str (headS a) = V.str "row") = decide (tag a = 5) from dec_head a 5]
      by_cases ht : tag a = 5
      · rw [decide_eq_true ht]
        refine iteT ?_
        obtain ⟨fs, o, rfl⟩ := row_of ht
        obtain ⟨gs, o', rfl⟩ := row_of ((head_tag hh).symm.trans ht)
        obtain ⟨_, c1, ws, e1, r1, _, _⟩ := hv.row
        obtain ⟨_, c2, ws', e2, r2, _, _⟩ := hu.row
        cases e1
        cases e2
        have wa' : (names fs).Sublist nms ∧ ∀ f ∈ fs, Wf n f.2.2 := wa
        have wb' : (names gs).Sublist nms ∧ ∀ f ∈ gs, Wf n f.2.2 := wb
        have stop : (o' && !o) = true → Q (.bl false) H := fun c => by
          have z := q H (Same.refl H)
          rw [lek_rows (ns := names fs ++ names gs) (fun x => List.mem_append), if_pos c] at z
          exact z
        have go : (o' && !o) = false → (tRet (tCB (rAll K) (tCons (tLc (iList K (tCall (spNames K) [] E0 (tCons (tVar 0) (tCons (tVar 1) tNil)))) (gName 2) tYes
            (tCall (spEL K n) [] E0 (tCons (tCall (spEntry K) [] E0 (tCons (tVar 0) (tCons (tVar 2) tNil))) (tCons (tCall (spEntry K) [] E0 (tCons (tVar 1) (tCons (tVar 2) tNil))) tNil))) [2]) tNil))) { nx := fun _ H' => Q .non H', rt := Q }
            (L2.start ["one", "other", "name", "pairs", "first", "second"] [.ref p, .ref p']) H := fun c => by
          refine ⟨_, rfl, _, rfl, .ref p, .ref p', fs, gs, o, o', rfl, hv, hu, fields_few wa'.1, fields_few wb'.1, fun ys r H2 s2 e2 hm hy => ?_⟩
          refine ⟨r, rfl, ⟨_, SqL.of e2⟩, fun D hD => lc_it (walk_list (K := K) (a := r) (xs := ys.map V.str)) (fun i H3 => Same H2 H3 ∧ H3 D = some (.lst (((ys.take i).map fun x => leE (lek n) (entry fs o x) (entry gs o' x)).map V.bl))) ⟨same_new hD _, upd_same⟩ (fun i H3 _ ⟨s3, _⟩ => s3.seq (SqL.of e2)) ?_ ?_⟩
          · rintro i y H3 H4 hi ⟨s3, e3⟩ ⟨rfl, hy'⟩
            rw [List.getElem?_map] at hy'
            obtain ⟨x, hx, rfl⟩ := Option.map_eq_some_iff.mp hy'
            have tk3 := same_tk (s2.trans s3)
            refine ⟨rfl, yesT ?_⟩
            refine ⟨_, rfl, _, rfl, .ref p, x, fs, o, rfl, hv.tk tk3, fun w1 H5 s5 k5 => ?_⟩
            refine ⟨_, rfl, _, rfl, .ref p', x, gs, o', rfl, (hu.tk tk3).tk (same_tk s5), fun w2 H6 s6 k6 => ?_⟩
            refine ⟨w1, w2, entry fs o x, entry gs o' x, rfl, k5.tk (same_tk s6), k6, wf_entry wa, wf_entry wb, by omega, fun H7 s7 => ?_⟩
            have s37 := (s5.trans s6).trans s7
            refine ⟨_, s37 _ _ e3, small100 (by rw [List.length_map, List.length_map, List.length_take]; omega), same_at (s3.trans s37) hD, ?_⟩
            rw [upd_same, take_one hx, List.map_append, List.map_append]
            rfl
          · rintro H3 ⟨s3, e3⟩
            rw [List.length_map, List.take_length] at e3
            refine ⟨D, _, rfl, SqL.of e3, ?_⟩
            have z := q H3 (s2.trans s3)
            rw [lek_rows hm, if_neg (by rw [c]; exact Bool.false_ne_true)] at z
            rw [List.all_map]
            exact z
        refine ⟨_, rfl, p', _, _, _, rfl, rfl, r2, atI_nat (j := 2) rfl, o', rfl, ?_⟩
        cases o' with
        | false => exact iteF (iteF (go rfl))
        | true =>
          refine iteT ?_
          refine ⟨_, rfl, p, _, _, _, rfl, rfl, r1, atI_nat (j := 2) rfl, o, rfl, ?_⟩
          cases o with
          | false => exact iteT (stop rfl)
          | true => exact iteF (go rfl)
      · rw [decide_eq_false ht]
        refine iteF ?_
        have er : isRow a = false := by
          cases a with
          | row fs o => exact absurd rfl ht
          | _ => rfl
        have le := lek_subs (n := n) ea er hh
        have fa := subs_few wa
        have fb := subs_few wb
        refine ⟨_, rfl, .ref p, a, rfl, hv, fa, fun l1 ws1 H1 s1 e1 d1 => ?_⟩
        refine ⟨_, rfl, .ref p', b, rfl, hu.tk (same_tk s1), fb, fun l2 ws2 H2 s2 e2 d2 => ?_⟩
        have n1 := subs_len d1
        have n2 := subs_len d2
        have d1' := subs_tk d1 (same_tk s2)
        refine ⟨l1, l2, ws1, ws2, rfl, SqL.of (s2 _ _ e1), SqL.of e2, by omega, fun H3 r ts s3 e3 pp => ?_⟩
        have s3 : Same H2 H3 := s3
        have lt := pp.length
        rw [List.length_zip] at lt
        refine ⟨_, rfl, r, rfl, ⟨_, SqL.of e3⟩, fun D hD => lc_it (walk_list (K := K) (a := r) (xs := ts.map V.ref)) (fun i H4 => Same H3 H4 ∧ H4 D = some (.lst (((((subs a).zip (subs b)).take i).map fun x => lek n x.1.2 x.2.2).map V.bl))) ⟨same_new hD _, upd_same⟩ (fun i H4 _ ⟨s4, _⟩ => s4.seq (SqL.of e3)) ?_ ?_⟩
        · rintro i y H4 H5 hi ⟨s4, e4⟩ ⟨rfl, hy⟩
          rw [List.getElem?_map] at hy
          obtain ⟨t, ht', rfl⟩ := Option.map_eq_some_iff.mp hy
          obtain ⟨xy, f1, f2⟩ := LiI.paired_get pp ht'
          obtain ⟨x1, x2⟩ := xy
          obtain ⟨g1, g2⟩ := List.getElem?_zip_eq_some.mp f1
          obtain ⟨m1, c1, t1, z1, h1, rfl, h2, h3⟩ := subs_at d1' g1
          obtain ⟨m2, c2, t2, z2, j1, rfl, j2, j3⟩ := subs_at d2 g2
          have f2 : H3 t = some (.tup [.ref t1, .ref t2]) := f2
          have tk4 := same_tk s4
          have tk24 := (same_tk s3).trans tk4
          refine ⟨t, _, rfl, .inl (.inl (s4 _ _ f2)), rfl, _, _, rfl, _, _, rfl, rfl, rfl, yesT ?_⟩
          refine ⟨_, rfl, t1, _, _, _, rfl, rfl, tk24.seqT h2, atI_nat (j := 1) rfl, _, rfl, t2, _, _, _, rfl, rfl, tk24.seqT j2, atI_nat (j := 1) rfl, z1, z2, c1, c2, rfl, h3.tk tk24, j3.tk tk24, subs_wf wa _ (List.mem_of_getElem? h1), subs_wf wb _ (List.mem_of_getElem? j1), by omega, fun H6 s6 => ?_⟩
          have zx : ((subs a).zip (subs b))[i]? = some ((m1, c1), (m2, c2)) := List.getElem?_zip_eq_some.mpr ⟨h1, j1⟩
          refine ⟨_, s6 _ _ e4, small100 (by rw [List.length_map, List.length_map, List.length_take, List.length_zip]; omega), same_at (s4.trans s6) hD, ?_⟩
          rw [upd_same, take_one zx, List.map_append, List.map_append]
          rfl
        · rintro H4 ⟨s4, e4⟩
          have lz : (ts.map V.ref).length = ((subs a).zip (subs b)).length := by rw [List.length_map, List.length_zip]; omega
          rw [lz, List.take_length] at e4
          refine ⟨D, _, rfl, SqL.of e4, ?_⟩
          have z := q H4 (((s1.trans s2).trans s3).trans s4)
          rw [le] at z
          rw [List.all_map]
          exact z
    · have z := q H (Same.refl H)
      rw [lek_head ea hh] at z
      rw [decide_eq_false (show ¬ V.str (headS a) = V.str (headS b) from fun e => hh (V.str.inj e))]
      exact iteT z
/-! ### knows_less -/
theorem scKnows : FnScope ["one", "other"] ["one", "other"] (defScope sKnows) := ⟨rfl, rfl, rfl, by decide +kernel, rfl, by decide +kernel, by decide +kernel⟩
theorem ok_knows (F : Fun K "knows_less" "knows_less" sKnows f fd) (CP : Cal P w K mg base 8 "parts_in" ["kind"] (spParts K)) (CL : Cal P w K mg base 10 "less_known" ["one", "other"] (spLess K 4)) : FnOk P w K mg base CX0 11 f fd ["one", "other"] (spLess K 4) := by
  obtain ⟨gP, dP, GP, bP, kP, mP⟩ := CP
  obtain ⟨gL, dL, GL, bL, kL, mL⟩ := CL
  refine F.ok scKnows (fun vs H Q E h => ?_) (fun cdv A outer s H vs Q E hr h => ?_)
  · obtain ⟨v, u, a, b, rfl, _⟩ := h
    rfl
  obtain ⟨v, u, a, b, rfl, hv, hu, wa, wb, h4, q⟩ := h
  have hr8 : Room 8 _ := hr.mono (by omega)
  refine ⟨_, pss_cons (ps_expr (pe_call GP hr8 rfl mP kP bP .nil pass0 (pa_cons (pv 0) pa_nil))) (pss_cons (ps_expr (pe_call GP hr8 rfl mP kP bP .nil pass0 (pa_cons (pv 1) pa_nil)))
    (pss_one (ps_ret (pe_call GL hr rfl mL kL bL .nil pass0 (pa_cons (pv 0) (pa_cons (pv 1) pa_nil)))))), ?_⟩
  refine ⟨_, rfl, v, a, rfl, hv, wa, fun r1 H1 s1 => ?_⟩
  refine ⟨_, rfl, u, b, rfl, hu.tk (same_tk s1), wb, fun r2 H2 s2 => ?_⟩
  exact ⟨_, rfl, _, rfl, v, u, a, b, rfl, hv.tk (same_tk (s1.trans s2)), hu.tk (same_tk (s1.trans s2)), wa, wb, h4, fun H3 s3 => q H3 ((s1.trans s2).trans s3)⟩
end
end CW

namespace CW
open PySem L2
/-- both ways no more known than one another: the same -/
theorem both_same {x y : Kd} (hx : Wf 4 x) (hy : Wf 4 y) : (lek 4 x y && lek 4 y x) = PyData.eqv (enc x) (enc y) := by
  rw [Bool.eq_iff_iff, Bool.and_eq_true, eqv_enc 4 x y hx hy]
  refine ⟨fun h => lek_anti 4 x y hx hy h.1 h.2, fun h => ?_⟩
  rw [h]
  exact ⟨lek_refl 4 y hy, lek_refl 4 y hy⟩
section
variable {P : Program} {w : World} {K : PySem.W.Frag} {mg : Str → Option Value} {base : Heap} {f : Addr} {fd : FuncData}
theorem scLaw : FnScope ["script", "state", "one", "two", "three", "other", "first", "second"] ["script"] (defScope sLaw) := ⟨rfl, rfl, rfl, by decide +kernel, rfl, by decide +kernel, by decide +kernel⟩
def spLaw (K : PySem.W.Frag) : Sp := fun vs H Q _ => ∃ (a : Addr) (ns : List Int), vs = [.ref a] ∧ SqL K H a (ns.map V.int) ∧ ∀ H', Q (.bl true) H'
/-- two kinds in a tuple -/
def PairAt2 (K : PySem.W.Frag) (H : Hp) (v : V) : Prop := ∃ t x y a b, v = .ref t ∧ SqT K H t [x, y] ∧ KAt K H x a ∧ KAt K H y b ∧ Wf 4 a ∧ Wf 4 b
theorem PairAt2.tk {H H' : Hp} {v : V} (h : PairAt2 K H v) (e : Tk H H') : PairAt2 K H' v := by
  obtain ⟨t, x, y, a, b, rfl, h1, h2, h3, h4⟩ := h
  exact ⟨t, x, y, a, b, rfl, e.seqT h1, h2.tk e, h3.tk e, h4⟩
theorem three_at {H : Hp} {x y z u : V} (h1 : PairAt2 K H x) (h2 : PairAt2 K H y) (h3 : PairAt2 K H z) {i : Nat} (e : [x, y, z][i]? = some u) : PairAt2 K H u := by
  match i, e with
  | 0, e => rw [← Option.some.inj e]; exact h1
  | 1, e => rw [← Option.some.inj e]; exact h2
  | 2, e => rw [← Option.some.inj e]; exact h3
theorem ok_law (F : Fun K "law" "law" sLaw f fd) (CS : Cal P w K mg base 1 "_law_state" ["script", "k"] (spState K)) (CK : Cal P w K mg base 5 "_law_kind" ["state", "deep"] (spKind K 4)) (CF : Cal P w K mg base 5 "_law_forgot" ["state", "kind"] (spForgot K 4))
    (CN : Cal P w K mg base 10 "_law_near" ["state", "kind", "deep"] (spNear K 4)) (CL : Cal P w K mg base 11 "knows_less" ["one", "other"] (spLess K 4)) (CI : Cal P w K mg base 9 "is_known" ["kind"] (spKnown K 4)) : FnOk P w K mg base CX0 12 f fd ["script"] (spLaw K) := by
  obtain ⟨gS, dS, GS, bS, kS, mS⟩ := CS
  obtain ⟨gK, dK, GK, bK, kK, mK⟩ := CK
  obtain ⟨gF, dF, GF, bF, kF, mF⟩ := CF
  obtain ⟨gN, dN, GN, bN, kN, mN⟩ := CN
  obtain ⟨gL, dL, GL, bL, kL, mL⟩ := CL
  obtain ⟨gI, dI, GI, bI, kI, mI⟩ := CI
  refine F.ok scLaw (fun vs H Q E h => ?_) (fun cdv A outer s H vs Q E hr h => ?_)
  · obtain ⟨a, ns, rfl, _⟩ := h
    rfl
  obtain ⟨a, ns, rfl, hS, q⟩ := h
  have nd := scLaw.nd
  have un := hr.units
  have hr1 : Room 1 _ := hr.mono (by decide)
  have hr5 : Room 5 _ := hr.mono (by decide)
  have hr9 : Room 9 _ := hr.mono (by decide)
  have hr10 : Room 10 _ := hr.mono (by decide)
  refine ⟨_, pss_cons (ps_set (i := 1) nd rfl (Or.inl rfl) (pe_call GS hr1 rfl mS kS bS .nil pass0 (pa_cons (pv 0) (pa_cons pe_int pa_nil))))
    (pss_cons (ps_set (i := 2) nd rfl (Or.inl rfl) (pe_call GK hr5 rfl mK kK bK .nil pass0 (pa_cons (pv 1) (pa_cons pe_int pa_nil))))
    (pss_cons (ps_set (i := 3) nd rfl (Or.inl rfl) (pe_call GF hr5 rfl mF kF bF .nil pass0 (pa_cons (pv 1) (pa_cons (pv 2) pa_nil))))
    (pss_cons (ps_set (i := 4) nd rfl (Or.inl rfl) (pe_call GF hr5 rfl mF kF bF .nil pass0 (pa_cons (pv 1) (pa_cons (pv 3) pa_nil))))
    (pss_cons (ps_set (i := 5) nd rfl (Or.inl rfl) (pe_call GN hr10 rfl mN kN bN .nil pass0 (pa_cons (pv 1) (pa_cons (pv 2) (pa_cons pe_int pa_nil)))))
    (pss_cons (ps_if (PW.pt (pw_or (pt_not (pt_val (pe_call GL hr rfl mL kL bL .nil pass0 (pa_cons (pv 3) (pa_cons (pv 2) pa_nil))))) (pw_or (pt_not (pt_val (pe_call GL hr rfl mL kL bL .nil pass0 (pa_cons (pv 4) (pa_cons (pv 3) pa_nil)))))
      (pw_or1 (pt_not (pt_val (pe_call GL hr rfl mL kL bL .nil pass0 (pa_cons (pv 4) (pa_cons (pv 2) pa_nil))))))))) (pss_one (ps_ret pe_bl)) pss_nil)
    (pss_cons (ps_for PassesOwn.never rfl (pi_list (pe_lst (pa_cons (pe_tup (pa_cons (pv 2) (pa_cons (pv 3) pa_nil))) (pa_cons (pe_tup (pa_cons (pv 3) (pa_cons (pv 4) pa_nil))) (pa_cons (pe_tup (pa_cons (pv 2) (pa_cons (pv 5) pa_nil))) pa_nil)))))
        (pg_tup rfl (pgs_cons (pg_name (i := 6) nd rfl (Or.inl rfl)) (pgs_cons (pg_name (i := 7) nd rfl (Or.inl rfl)) pgs_nil)))
      (pss_one (ps_if (pt_cmpR op_ne (pe_and (pe_call GL hr rfl mL kL bL .nil pass0 (pa_cons (pv 6) (pa_cons (pv 7) pa_nil))) (pe_one (pe_call GL hr rfl mL kL bL .nil pass0 (pa_cons (pv 7) (pa_cons (pv 6) pa_nil)))))
        (pe_cmpR (op_eqD un) (pv 6) (pv 7) (nomark _)) (nomark _)) (pss_one (ps_ret pe_bl)) pss_nil)))
    (pss_one (ps_ret (pe_or (pe_not (pe_call GI hr9 rfl mI kI bI .nil pass0 (pa_cons (pv 2) pa_nil))) (pe_or (pe_not (pe_call GL hr rfl mL kL bL .nil pass0 (pa_cons (pv 2) (pa_cons (pv 5) pa_nil))))
      (pe_one (pe_cmpR (op_eqD un) (pv 5) (pv 2) (nomark _))))))))))))), ?_⟩
  refine ⟨_, rfl, a, ns, rfl, hS, fun st H1 s1 => ?_⟩
  refine ⟨_, rfl, st, 3, rfl, s1, by decide, fun v1 k1 H2 b2 s2 a1 w1 => ?_⟩
  have w1 : Wf 4 k1 := w1
  refine ⟨_, rfl, _, rfl, st, v1, k1, rfl, s2, a1, w1, fun v2 k2 H3 b3 s3 a2 w2 l21 => ?_⟩
  refine ⟨_, rfl, _, rfl, st, v2, k2, rfl, s3, a2, w2, fun v3 k3 H4 b4 s4 a3 w3 l32 => ?_⟩
  have a1 := a1.tk ((s2.tk b3).trans (s3.tk b4))
  have a2 := a2.tk (s3.tk b4)
  refine ⟨_, rfl, _, rfl, st, v1, k1, 2, rfl, s4, a1, w1, by decide, by decide, fun v4 k4 H5 b5 s5 a4 w4 => ?_⟩
  have a1 := a1.tk (s4.tk b5)
  have a2 := a2.tk (s4.tk b5)
  have a3 := a3.tk (s4.tk b5)
  have l31 := lek_trans 4 k3 k2 k1 l32 l21
  refine ⟨_, rfl, _, rfl, v2, v1, k2, k1, rfl, a2, a1, w2, w1, by decide, fun H6 s6 => ⟨_, rfl, ?_⟩⟩
  rw [l21]
  refine iteF ?_
  have t6 := same_tk s6
  refine ⟨_, rfl, _, rfl, v3, v2, k3, k2, rfl, a3.tk t6, a2.tk t6, w3, w2, by decide, fun H7 s7 => ⟨_, rfl, ?_⟩⟩
  rw [l32]
  refine iteF ?_
  have t7 := t6.trans (same_tk s7)
  refine ⟨_, rfl, _, rfl, v3, v1, k3, k1, rfl, a3.tk t7, a1.tk t7, w3, w1, by decide, fun H8 s8 => ⟨_, rfl, ?_⟩⟩
  rw [l31]
  refine iteF ?_
  have t8 := t7.trans (same_tk s8)
  have a1 := a1.tk t8
  have a2 := a2.tk t8
  have a3 := a3.tk t8
  have a4 := a4.tk t8
  refine ⟨_, rfl, _, rfl, (by show 2 ≤ sizeLine; decide), fun t1 n1 => ⟨_, rfl, _, rfl, (by show 2 ≤ sizeLine; decide), fun t2 n2 => ⟨_, rfl, _, rfl, (by show 2 ≤ sizeLine; decide), fun t3 n3 => ⟨(by show 3 ≤ sizeLine; decide), fun L nL => ?_⟩⟩⟩⟩
  have c1 := tk_new (o := .tup [v1, v2]) n1
  have c2 := tk_new (o := .tup [v2, v3]) n2
  have c3 := tk_new (o := .tup [v1, v4]) n3
  have c4 := tk_new (o := .lst [.ref t1, .ref t2, .ref t3]) nL
  have p1 : PairAt2 K _ (.ref t1) := ⟨t1, v1, v2, k1, k2, rfl, sqT_upd, a1.tk c1, a2.tk c1, w1, w2⟩
  have p2 : PairAt2 K _ (.ref t2) := ⟨t2, v2, v3, k2, k3, rfl, sqT_upd, a2.tk (c1.trans c2), a3.tk (c1.trans c2), w2, w3⟩
  have p3 : PairAt2 K _ (.ref t3) := ⟨t3, v1, v4, k1, k4, rfl, sqT_upd, a1.tk ((c1.trans c2).trans c3), a4.tk ((c1.trans c2).trans c3), w1, w4⟩
  have c5 := ((c1.trans c2).trans c3).trans c4
  have a1 := a1.tk c5
  have a4 := a4.tk c5
  have p1 := p1.tk ((c2.trans c3).trans c4)
  have p2 := p2.tk (c3.trans c4)
  have p3 := p3.tk c4
  refine ⟨L, rfl, ⟨_, SqL.of upd_same⟩, ?_⟩
  generalize hH9 : upd (upd (upd (upd H8 t1 (.tup [v1, v2])) t2 (.tup [v2, v3])) t3 (.tup [v1, v4])) L (.lst [.ref t1, .ref t2, .ref t3]) = H9 at a1 a4 p1 p2 p3 ⊢
  have eL : H9 L = some (.lst [.ref t1, .ref t2, .ref t3]) := by rw [← hH9, upd_same]
  refine for_it (walk_list (K := K) (a := L) (xs := [.ref t1, .ref t2, .ref t3])) (fun i σ H2 => Same H9 H2 ∧ ∃ o6 o7, σ = [some (.ref a), some (.ref st), some v1, some v2, some v3, some v4, o6, o7]) ⟨Same.refl _, none, none, rfl⟩ (fun i σ H2 _ ⟨s, _⟩ => s.seq (SqL.of eL)) ?_ ?_
  · rintro i y σ H10 H11 hi ⟨s10, o6, o7, rfl⟩ ⟨rfl, hy⟩
    obtain ⟨t, x, z, kx, kz, rfl, q1, q2, q3, wx, wz⟩ := (three_at p1 p2 p3 hy).tk (same_tk s10)
    refine ⟨t, _, rfl, q1, rfl, _, _, rfl, _, _, rfl, rfl, ?_⟩
    refine ⟨_, rfl, _, rfl, x, z, kx, kz, rfl, q2, q3, wx, wz, by decide, fun H12 s12 => ⟨_, rfl, ?_⟩⟩
    have key := both_same wx wz
    have sx : SeqAt.shaped (enc kx) = true := shaped_enc wx (by decide)
    have sz : SeqAt.shaped (enc kz) = true := shaped_enc wz (by decide)
    have q2 := q2.tk (same_tk s12)
    have q3 := q3.tk (same_tk s12)
    cases e1 : lek 4 kx kz with
    | true =>
      refine iteT ?_
      refine ⟨_, rfl, _, rfl, z, x, kz, kx, rfl, q3, q2, wz, wx, by decide, fun H13 s13 => ?_⟩
      refine ⟨_, rfl, _, rfl, _, _, q2.tk (same_tk s13), q3.tk (same_tk s13), sx, sz, rfl, _, rfl, ?_⟩
      rw [e1, Bool.true_and] at key
      rw [key]
      exact iteNS rfl ⟨(s10.trans s12).trans s13, _, _, rfl⟩
    | false =>
      refine iteF ?_
      refine ⟨_, rfl, _, rfl, _, _, q2, q3, sx, sz, rfl, _, rfl, ?_⟩
      rw [e1, Bool.false_and] at key
      rw [← key]
      exact iteNS rfl ⟨s10.trans s12, _, _, rfl⟩
  · rintro σ H10 ⟨s10, o6, o7, rfl⟩
    have a1 := a1.tk (same_tk s10)
    have a4 := a4.tk (same_tk s10)
    refine ⟨_, rfl, v1, k1, rfl, a1, w1, fun H11 s11 => ⟨_, rfl, _, rfl, ?_⟩⟩
    cases e1 : known 4 k1 with
    | false => exact iteT (q H11)
    | true =>
      refine iteF ?_
      have t11 := same_tk s11
      refine ⟨_, rfl, _, rfl, v1, v4, k1, k4, rfl, a1.tk t11, a4.tk t11, w1, w4, by decide, fun H12 s12 => ⟨_, rfl, _, rfl, ?_⟩⟩
      cases e2 : lek 4 k1 k4 with
      | false => exact iteT (q H12)
      | true =>
        refine iteF ?_
        have t12 := t11.trans (same_tk s12)
        have e := known_top 4 k1 k4 w1 w4 e1 e2
        have z := q H12
        rw [← (eqv_enc 4 k4 k1 w4 w1).mpr e.symm] at z
        exact ⟨_, rfl, _, rfl, _, _, a4.tk t12, a1.tk t12, shaped_enc w4 (by decide), shaped_enc w1 (by decide), z⟩
end
end CW

namespace CW
open PySem L2
section
variable {P : Program} {w : World} {K : PySem.W.Frag} {mg : Str → Option Value} {base : Heap}
/-- what is never asked is kept -/
theorem fn_never {k : Nat} {f : Addr} {fd : FuncData} {ps : List Str} {sp : Sp} (no : ∀ vs H Q E, ¬ sp vs H Q E) : FnOk P w K mg base CX0 k f fd ps sp :=
  ⟨fun vs H Q E h => absurd h (no vs H Q E), fun A outer s H args us vs Q E _ _ _ _ h => absurd h (no vs H Q E)⟩
/-- a def as it stands behind the top -/
structure Std (K : PySem.W.Frag) (mg : Str → Option Value) (x : Str) (st : Stmt) (ps : List Str) (f : Addr) (fd : FuncData) : Prop where
  fn : Fun K x x st f fd
  bd : Binds K fd ps []
  at_ : mg x = some (.ref f)
theorem Std.cal {x : Str} {st : Stmt} {ps : List Str} {f : Addr} {fd : FuncData} {k : Nat} {sp : Sp} (s : Std K mg x st ps f fd) (h : FnOk P w K mg base CX0 k f fd ps sp) : Cal P w K mg base k x ps sp := ⟨f, fd, h, s.bd, s.fn.kp, s.at_⟩
theorem tup_at {a : Addr} {o : Obj} {its : Array Value} {n : Nat} {xs : List V} (h : K.lookup a = some o) (c : o.cls = .type "tuple") (d : o.data = .seq its n) (l : its.size ≤ 100) (r : Vals xs its.toList) : ∀ H, SqT K H a xs := fun H => .inr ⟨o, its, n, h, c, d, Nat.le_trans l (by decide), r⟩
variable {f1 f2 f3 f4 f5 f6 f7 f8 f9 f10 f11 f12 f13 f14 f15 f16 f17 f18 f19 : Addr} {d1 d2 d3 d4 d5 d6 d7 d8 d9 d10 d11 d12 d13 d14 d15 d16 d17 d18 d19 : FuncData}
theorem all_counted (G : Glb K mg) (S5 : Std K mg "counted" sCounted ["kind", "deep"] f5 d5) (CH : Cal P w K mg base 3 "is_headed" ["kind"] (spIsHeaded K)) (CW : Cal P w K mg base 1 "kinds_within" ["kind"] (spWithin K)) : ∀ n : Nat, FnOk P w K mg base CX0 (n + 3) f5 d5 ["kind", "deep"] (spCounted K n)
  | 0 => fn_never fun vs H Q E ⟨v, k, d, _, _, h, _⟩ => h
  | n + 1 => ok_counted S5.fn G CH CW (S5.cal (all_counted G S5 CH CW n))
theorem all_known (G : Glb K mg) (S8 : Std K mg "known_within" sKnownIn ["kind"] f8 d8) (CW : Cal P w K mg base 1 "kinds_within" ["kind"] (spWithin K)) : ∀ n : Nat, FnOk P w K mg base CX0 (n + 1) f8 d8 ["kind"] (spKnown K n)
  | 0 => fn_never fun vs H Q E ⟨v, k, _, _, h, _⟩ => h
  | n + 1 => ok_known S8.fn G CW (S8.cal (all_known G S8 CW n))
theorem all_kind (G : Glb K mg) (S16 : Std K mg "_law_kind" sKind ["state", "deep"] f16 d16) (CT : Cal P w K mg base 1 "_law_take" ["state", "many"] spTake) : ∀ n : Nat, FnOk P w K mg base CX0 (n + 1) f16 d16 ["state", "deep"] (spKind K n)
  | 0 => fn_never fun vs H Q E ⟨st, d, _, _, h, _⟩ => Nat.not_lt_zero _ h
  | n + 1 => ok_kind S16.fn G CT (S16.cal (all_kind G S16 CT n))
theorem all_forgot (G : Glb K mg) (S18 : Std K mg "_law_forgot" sForgot ["state", "kind"] f18 d18) (CT : Cal P w K mg base 1 "_law_take" ["state", "many"] spTake) : ∀ n : Nat, FnOk P w K mg base CX0 (n + 1) f18 d18 ["state", "kind"] (spForgot K n)
  | 0 => fn_never fun vs H Q E ⟨st, v, k, _, _, _, h, _⟩ => h
  | n + 1 => ok_forgot S18.fn G CT (S18.cal (all_forgot G S18 CT n))
theorem all_near (G : Glb K mg) (S17 : Std K mg "_law_near" sNear ["state", "kind", "deep"] f17 d17) (CT : Cal P w K mg base 1 "_law_take" ["state", "many"] spTake) (CK : Cal P w K mg base 5 "_law_kind" ["state", "deep"] (spKind K 4)) : ∀ n : Nat, FnOk P w K mg base CX0 (n + 6) f17 d17 ["state", "kind", "deep"] (spNear K n)
  | 0 => fn_never fun vs H Q E ⟨st, v, k, d, _, _, _, h, _⟩ => h
  | n + 1 => ok_near S17.fn G CT CK (S17.cal (all_near G S17 CT CK n))
theorem all_less (G : Glb K mg) (S12 : Std K mg "less_known" sLess ["one", "other"] f12 d12) (S11 : Std K mg "entry_less" sEntryLess ["one", "other"] f11 d11) (CE : Cal P w K mg base 1 "entry_of" ["kind", "name"] (spEntry K)) (CN : Cal P w K mg base 1 "names_of" ["one", "other"] (spNames K)) (CW : Cal P w K mg base 1 "kinds_within" ["kind"] (spWithin K)) : ∀ n : Nat, FnOk P w K mg base CX0 (2 * n + 2) f12 d12 ["one", "other"] (spLess K n)
  | 0 => fn_never fun vs H Q E ⟨v, u, a, b, _, _, _, h, _⟩ => h
  | n + 1 => by
    have ih := S12.cal (all_less G S12 S11 CE CN CW n)
    exact (ok_less S12.fn G CE CN CW (S11.cal (ok_EL S11.fn G ih)) ih).mono (by omega)
theorem all_law (G : Glb K mg) (S1 : Std K mg "is_name" sIsName ["thing"] f1 d1) (S2 : Std K mg "are_fields" sAreFields ["thing"] f2 d2) (S3 : Std K mg "is_headed" sIsHeaded ["kind"] f3 d3) (S4 : Std K mg "kinds_within" sWithin ["kind"] f4 d4) (S5 : Std K mg "counted" sCounted ["kind", "deep"] f5 d5) (S6 : Std K mg "parts_in" sParts ["kind"] f6 d6) (S7 : Std K mg "entry_of" sEntry ["kind", "name"] f7 d7) (S8 : Std K mg "known_within" sKnownIn ["kind"] f8 d8) (S9 : Std K mg "is_known" sIsKnown ["kind"] f9 d9) (S10 : Std K mg "names_of" sNames ["one", "other"] f10 d10) (S11 : Std K mg "entry_less" sEntryLess ["one", "other"] f11 d11) (S12 : Std K mg "less_known" sLess ["one", "other"] f12 d12) (S13 : Std K mg "knows_less" sKnows ["one", "other"] f13 d13) (S14 : Std K mg "_law_state" sState ["script", "k"] f14 d14) (S15 : Std K mg "_law_take" sTake ["state", "many"] f15 d15) (S16 : Std K mg "_law_kind" sKind ["state", "deep"] f16 d16) (S17 : Std K mg "_law_near" sNear ["state", "kind", "deep"] f17 d17) (S18 : Std K mg "_law_forgot" sForgot ["state", "kind"] f18 d18) (S19 : Std K mg "law" sLaw ["script"] f19 d19) : FnOk P w K mg base CX0 12 f19 d19 ["script"] (spLaw K) := by
  have CT := S15.cal (ok_take (P := P) (w := w) (base := base) S15.fn)
  have CW := S4.cal (ok_within (P := P) (w := w) (base := base) (mg := mg) S4.fn)
  have CN := S1.cal (ok_isName (P := P) (w := w) (base := base) S1.fn G)
  have CA := S2.cal (ok_areFields S2.fn G CN)
  have CH := S3.cal (ok_isHeaded S3.fn G CA)
  have CC := S5.cal (all_counted G S5 CH CW 4)
  have CP := S6.cal (ok_parts S6.fn G CC)
  have CKn := S8.cal (all_known G S8 CW 4)
  have CI := S9.cal (ok_isKnown S9.fn CP CKn)
  have CE := S7.cal (ok_entry (P := P) (w := w) (base := base) S7.fn G)
  have CNa := S10.cal (ok_names (P := P) (w := w) (base := base) S10.fn G)
  have CLe := S12.cal (all_less G S12 S11 CE CNa CW 4)
  have CL := S13.cal (ok_knows S13.fn CP CLe)
  have CS := S14.cal (ok_state (P := P) (w := w) (base := base) S14.fn G)
  have CK := S16.cal (all_kind G S16 CT 4)
  have CF := S18.cal (all_forgot G S18 CT 4)
  have CNe := S17.cal (all_near G S17 CT CK 4)
  exact ok_law S19.fn CS CK CF CNe CL CI
end
/-! ### what the top has left, each a fact that is looked up -/
theorem std_mk {K : PySem.W.Frag} {mg : Str → Option Value} {h : Heap} (X : K.In h) (G : h.Ns mainGlobals mg) {x : Str} {st : Stmt} {ps : List Str} {f : Addr} {od an : Option Addr} {sl : Array (Option Value)} {oc kV dc pm cd ct : Value}
    (bnd : ∀ (kV doc pm : Value) (an : Option Addr) (cdv ct : Value) (us : List Value), us.length = ps.length → bindArgs (PySem.W.fnOf x x (defArgs st) (defBody st) (defScope st) .none kV doc pm an cdv ct) ⟨us, []⟩ = pure (ps.zip us))
    (a : PySem.W.nsIn K mainGlobals x = some (some (.ref f))) (l : K.lookup f = some ⟨oc, od, .func (PySem.W.fnOf x x (defArgs st) (defBody st) (defScope st) .none kV dc pm an cd ct), sl⟩) (c : PySem.W.codeIn K cd x = true) (k : PySem.W.keepIn K (.ref f) = true) :
    Std K mg x st ps f (PySem.W.fnOf x x (defArgs st) (defBody st) (defScope st) .none kV dc pm an cd ct) := by
  have F := fun_mk (st := st) l c k
  exact ⟨F, F.binds (ps := ps) bnd, PySem.W.mg_of X G a⟩
theorem all_mk {l : PySem.W.OpenLaw} {w : World} {K : PySem.W.Frag} {h : Heap} {mg : Str → Option Value} {fa f1 f2 f3 f4 f5 f6 f7 f8 f9 f10 f11 f12 f13 f14 f15 f16 f17 f18 f19 : Addr} (X : K.In h) (G : h.Ns mainGlobals mg) (hfa : mg "law" = some (.ref fa))
    {od1 an1 od2 an2 od3 an3 od4 an4 od5 an5 od6 an6 od7 an7 od8 an8 od9 an9 od10 an10 od11 an11 od12 an12 od13 an13 od14 an14 od15 an15 od16 an16 od17 an17 od18 an18 od19 an19 : Option Addr} {sl1 sl2 sl3 sl4 sl5 sl6 sl7 sl8 sl9 sl10 sl11 sl12 sl13 sl14 sl15 sl16 sl17 sl18 sl19 : Array (Option Value)} {oc1 kV1 dc1 pm1 cd1 ct1 oc2 kV2 dc2 pm2 cd2 ct2 oc3 kV3 dc3 pm3 cd3 ct3 oc4 kV4 dc4 pm4 cd4 ct4 oc5 kV5 dc5 pm5 cd5 ct5 oc6 kV6 dc6 pm6 cd6 ct6 oc7 kV7 dc7 pm7 cd7 ct7 oc8 kV8 dc8 pm8 cd8 ct8 oc9 kV9 dc9 pm9 cd9 ct9 oc10 kV10 dc10 pm10 cd10 ct10 oc11 kV11 dc11 pm11 cd11 ct11 oc12 kV12 dc12 pm12 cd12 ct12 oc13 kV13 dc13 pm13 cd13 ct13 oc14 kV14 dc14 pm14 cd14 ct14 oc15 kV15 dc15 pm15 cd15 ct15 oc16 kV16 dc16 pm16 cd16 ct16 oc17 kV17 dc17 pm17 cd17 ct17 oc18 kV18 dc18 pm18 cd18 ct18 oc19 kV19 dc19 pm19 cd19 ct19 : Value}
    (a1 : PySem.W.nsIn K mainGlobals "is_name" = some (some (.ref f1))) (l1 : K.lookup f1 = some ⟨oc1, od1, .func (PySem.W.fnOf "is_name" "is_name" (defArgs sIsName) (defBody sIsName) (defScope sIsName) .none kV1 dc1 pm1 an1 cd1 ct1), sl1⟩) (c1 : PySem.W.codeIn K cd1 "is_name" = true) (k1 : PySem.W.keepIn K (.ref f1) = true)
    (a2 : PySem.W.nsIn K mainGlobals "are_fields" = some (some (.ref f2))) (l2 : K.lookup f2 = some ⟨oc2, od2, .func (PySem.W.fnOf "are_fields" "are_fields" (defArgs sAreFields) (defBody sAreFields) (defScope sAreFields) .none kV2 dc2 pm2 an2 cd2 ct2), sl2⟩) (c2 : PySem.W.codeIn K cd2 "are_fields" = true) (k2 : PySem.W.keepIn K (.ref f2) = true)
    (a3 : PySem.W.nsIn K mainGlobals "is_headed" = some (some (.ref f3))) (l3 : K.lookup f3 = some ⟨oc3, od3, .func (PySem.W.fnOf "is_headed" "is_headed" (defArgs sIsHeaded) (defBody sIsHeaded) (defScope sIsHeaded) .none kV3 dc3 pm3 an3 cd3 ct3), sl3⟩) (c3 : PySem.W.codeIn K cd3 "is_headed" = true) (k3 : PySem.W.keepIn K (.ref f3) = true)
    (a4 : PySem.W.nsIn K mainGlobals "kinds_within" = some (some (.ref f4))) (l4 : K.lookup f4 = some ⟨oc4, od4, .func (PySem.W.fnOf "kinds_within" "kinds_within" (defArgs sWithin) (defBody sWithin) (defScope sWithin) .none kV4 dc4 pm4 an4 cd4 ct4), sl4⟩) (c4 : PySem.W.codeIn K cd4 "kinds_within" = true) (k4 : PySem.W.keepIn K (.ref f4) = true)
    (a5 : PySem.W.nsIn K mainGlobals "counted" = some (some (.ref f5))) (l5 : K.lookup f5 = some ⟨oc5, od5, .func (PySem.W.fnOf "counted" "counted" (defArgs sCounted) (defBody sCounted) (defScope sCounted) .none kV5 dc5 pm5 an5 cd5 ct5), sl5⟩) (c5 : PySem.W.codeIn K cd5 "counted" = true) (k5 : PySem.W.keepIn K (.ref f5) = true)
    (a6 : PySem.W.nsIn K mainGlobals "parts_in" = some (some (.ref f6))) (l6 : K.lookup f6 = some ⟨oc6, od6, .func (PySem.W.fnOf "parts_in" "parts_in" (defArgs sParts) (defBody sParts) (defScope sParts) .none kV6 dc6 pm6 an6 cd6 ct6), sl6⟩) (c6 : PySem.W.codeIn K cd6 "parts_in" = true) (k6 : PySem.W.keepIn K (.ref f6) = true)
    (a7 : PySem.W.nsIn K mainGlobals "entry_of" = some (some (.ref f7))) (l7 : K.lookup f7 = some ⟨oc7, od7, .func (PySem.W.fnOf "entry_of" "entry_of" (defArgs sEntry) (defBody sEntry) (defScope sEntry) .none kV7 dc7 pm7 an7 cd7 ct7), sl7⟩) (c7 : PySem.W.codeIn K cd7 "entry_of" = true) (k7 : PySem.W.keepIn K (.ref f7) = true)
    (a8 : PySem.W.nsIn K mainGlobals "known_within" = some (some (.ref f8))) (l8 : K.lookup f8 = some ⟨oc8, od8, .func (PySem.W.fnOf "known_within" "known_within" (defArgs sKnownIn) (defBody sKnownIn) (defScope sKnownIn) .none kV8 dc8 pm8 an8 cd8 ct8), sl8⟩) (c8 : PySem.W.codeIn K cd8 "known_within" = true) (k8 : PySem.W.keepIn K (.ref f8) = true)
    (a9 : PySem.W.nsIn K mainGlobals "is_known" = some (some (.ref f9))) (l9 : K.lookup f9 = some ⟨oc9, od9, .func (PySem.W.fnOf "is_known" "is_known" (defArgs sIsKnown) (defBody sIsKnown) (defScope sIsKnown) .none kV9 dc9 pm9 an9 cd9 ct9), sl9⟩) (c9 : PySem.W.codeIn K cd9 "is_known" = true) (k9 : PySem.W.keepIn K (.ref f9) = true)
    (a10 : PySem.W.nsIn K mainGlobals "names_of" = some (some (.ref f10))) (l10 : K.lookup f10 = some ⟨oc10, od10, .func (PySem.W.fnOf "names_of" "names_of" (defArgs sNames) (defBody sNames) (defScope sNames) .none kV10 dc10 pm10 an10 cd10 ct10), sl10⟩) (c10 : PySem.W.codeIn K cd10 "names_of" = true) (k10 : PySem.W.keepIn K (.ref f10) = true)
    (a11 : PySem.W.nsIn K mainGlobals "entry_less" = some (some (.ref f11))) (l11 : K.lookup f11 = some ⟨oc11, od11, .func (PySem.W.fnOf "entry_less" "entry_less" (defArgs sEntryLess) (defBody sEntryLess) (defScope sEntryLess) .none kV11 dc11 pm11 an11 cd11 ct11), sl11⟩) (c11 : PySem.W.codeIn K cd11 "entry_less" = true) (k11 : PySem.W.keepIn K (.ref f11) = true)
    (a12 : PySem.W.nsIn K mainGlobals "less_known" = some (some (.ref f12))) (l12 : K.lookup f12 = some ⟨oc12, od12, .func (PySem.W.fnOf "less_known" "less_known" (defArgs sLess) (defBody sLess) (defScope sLess) .none kV12 dc12 pm12 an12 cd12 ct12), sl12⟩) (c12 : PySem.W.codeIn K cd12 "less_known" = true) (k12 : PySem.W.keepIn K (.ref f12) = true)
    (a13 : PySem.W.nsIn K mainGlobals "knows_less" = some (some (.ref f13))) (l13 : K.lookup f13 = some ⟨oc13, od13, .func (PySem.W.fnOf "knows_less" "knows_less" (defArgs sKnows) (defBody sKnows) (defScope sKnows) .none kV13 dc13 pm13 an13 cd13 ct13), sl13⟩) (c13 : PySem.W.codeIn K cd13 "knows_less" = true) (k13 : PySem.W.keepIn K (.ref f13) = true)
    (a14 : PySem.W.nsIn K mainGlobals "_law_state" = some (some (.ref f14))) (l14 : K.lookup f14 = some ⟨oc14, od14, .func (PySem.W.fnOf "_law_state" "_law_state" (defArgs sState) (defBody sState) (defScope sState) .none kV14 dc14 pm14 an14 cd14 ct14), sl14⟩) (c14 : PySem.W.codeIn K cd14 "_law_state" = true) (k14 : PySem.W.keepIn K (.ref f14) = true)
    (a15 : PySem.W.nsIn K mainGlobals "_law_take" = some (some (.ref f15))) (l15 : K.lookup f15 = some ⟨oc15, od15, .func (PySem.W.fnOf "_law_take" "_law_take" (defArgs sTake) (defBody sTake) (defScope sTake) .none kV15 dc15 pm15 an15 cd15 ct15), sl15⟩) (c15 : PySem.W.codeIn K cd15 "_law_take" = true) (k15 : PySem.W.keepIn K (.ref f15) = true)
    (a16 : PySem.W.nsIn K mainGlobals "_law_kind" = some (some (.ref f16))) (l16 : K.lookup f16 = some ⟨oc16, od16, .func (PySem.W.fnOf "_law_kind" "_law_kind" (defArgs sKind) (defBody sKind) (defScope sKind) .none kV16 dc16 pm16 an16 cd16 ct16), sl16⟩) (c16 : PySem.W.codeIn K cd16 "_law_kind" = true) (k16 : PySem.W.keepIn K (.ref f16) = true)
    (a17 : PySem.W.nsIn K mainGlobals "_law_near" = some (some (.ref f17))) (l17 : K.lookup f17 = some ⟨oc17, od17, .func (PySem.W.fnOf "_law_near" "_law_near" (defArgs sNear) (defBody sNear) (defScope sNear) .none kV17 dc17 pm17 an17 cd17 ct17), sl17⟩) (c17 : PySem.W.codeIn K cd17 "_law_near" = true) (k17 : PySem.W.keepIn K (.ref f17) = true)
    (a18 : PySem.W.nsIn K mainGlobals "_law_forgot" = some (some (.ref f18))) (l18 : K.lookup f18 = some ⟨oc18, od18, .func (PySem.W.fnOf "_law_forgot" "_law_forgot" (defArgs sForgot) (defBody sForgot) (defScope sForgot) .none kV18 dc18 pm18 an18 cd18 ct18), sl18⟩) (c18 : PySem.W.codeIn K cd18 "_law_forgot" = true) (k18 : PySem.W.keepIn K (.ref f18) = true)
    (a19 : PySem.W.nsIn K mainGlobals "law" = some (some (.ref f19))) (l19 : K.lookup f19 = some ⟨oc19, od19, .func (PySem.W.fnOf "law" "law" (defArgs sLaw) (defBody sLaw) (defScope sLaw) .none kV19 dc19 pm19 an19 cd19 ct19), sl19⟩) (c19 : PySem.W.codeIn K cd19 "law" = true) (k19 : PySem.W.keepIn K (.ref f19) = true)
    {qF qN qA qP : Addr} {oF oN oA oP : Obj} {iF iN iA iP : Array Value} {nF nN nA nP : Nat}
    (aF : PySem.W.nsIn K mainGlobals "FREE" = some (some (.ref qF))) (lF : K.lookup qF = some oF) (cF : oF.cls = .type "tuple") (eF : oF.data = .seq iF nF) (zF : iF.size ≤ 100) (rF : Vals [.str "free"] iF.toList)
    (aN : PySem.W.nsIn K mainGlobals "NONE" = some (some (.ref qN))) (lN : K.lookup qN = some oN) (cN : oN.cls = .type "tuple") (eN : oN.data = .seq iN nN) (zN : iN.size ≤ 100) (rN : Vals [.str "none"] iN.toList)
    (aA : PySem.W.nsIn K mainGlobals "ANY" = some (some (.ref qA))) (lA : K.lookup qA = some oA) (cA : oA.cls = .type "tuple") (eA : oA.data = .seq iA nA) (zA : iA.size ≤ 100) (rA : Vals [.str "any"] iA.toList)
    (aP : PySem.W.nsIn K mainGlobals "PLAIN" = some (some (.ref qP))) (lP : K.lookup qP = some oP) (cP : oP.cls = .type "tuple") (eP : oP.data = .seq iP nP) (zP : iP.size ≤ 100) (rP : Vals [.str "any", .str "num", .str "truth"] iP.toList)
    {tp td ts tL : Tok}
    (ap : PySem.W.nsIn K mainGlobals "MOST_PARTS" = some (some (.int 40 tp)))
    (ad : PySem.W.nsIn K mainGlobals "MOST_DEEP" = some (some (.int 8 td)))
    (as : PySem.W.nsIn K mainGlobals "MOST_SIGNS" = some (some (.int 8 ts)))
    (aL : PySem.W.nsIn K mainGlobals "SMALL" = some (some (.str "abcdefghijklmnopqrstuvwxyz" tL)))
    (b_len : PySem.W.nsIn K mainGlobals "len" = some none) (b_isinstance : PySem.W.nsIn K mainGlobals "isinstance" = some none) (b_all : PySem.W.nsIn K mainGlobals "all" = some none) (b_zip : PySem.W.nsIn K mainGlobals "zip" = some none) (b_sum : PySem.W.nsIn K mainGlobals "sum" = some none) (b_sorted : PySem.W.nsIn K mainGlobals "sorted" = some none) (b_set : PySem.W.nsIn K mainGlobals "set" = some none) (b_list : PySem.W.nsIn K mainGlobals "list" = some none) (b_int : PySem.W.nsIn K mainGlobals "int" = some none) (b_tuple : PySem.W.nsIn K mainGlobals "tuple" = some none) (b_str : PySem.W.nsIn K mainGlobals "str" = some none) :
    ∃ fd : FuncData, (∀ (s : Shared) (v : Value), BindsTo s fd ⟨[v], []⟩ [("script", v)]) ∧ ∀ base : Heap, K.In base → base.Ns mainGlobals mg → FnOk l.prog w K mg base CX0 12 fa fd ["script"] (spLaw K) := by
  have e := hfa.symm.trans (PySem.W.mg_of X G a19)
  cases e
  have S1 := std_mk X G (x := "is_name") (st := sIsName) (ps := ["thing"]) (fun _ _ _ _ _ _ us hl => match us, hl with | [_], _ => rfl) a1 l1 c1 k1
  have S2 := std_mk X G (x := "are_fields") (st := sAreFields) (ps := ["thing"]) (fun _ _ _ _ _ _ us hl => match us, hl with | [_], _ => rfl) a2 l2 c2 k2
  have S3 := std_mk X G (x := "is_headed") (st := sIsHeaded) (ps := ["kind"]) (fun _ _ _ _ _ _ us hl => match us, hl with | [_], _ => rfl) a3 l3 c3 k3
  have S4 := std_mk X G (x := "kinds_within") (st := sWithin) (ps := ["kind"]) (fun _ _ _ _ _ _ us hl => match us, hl with | [_], _ => rfl) a4 l4 c4 k4
  have S5 := std_mk X G (x := "counted") (st := sCounted) (ps := ["kind", "deep"]) (fun _ _ _ _ _ _ us hl => match us, hl with | [_, _], _ => rfl) a5 l5 c5 k5
  have S6 := std_mk X G (x := "parts_in") (st := sParts) (ps := ["kind"]) (fun _ _ _ _ _ _ us hl => match us, hl with | [_], _ => rfl) a6 l6 c6 k6
  have S7 := std_mk X G (x := "entry_of") (st := sEntry) (ps := ["kind", "name"]) (fun _ _ _ _ _ _ us hl => match us, hl with | [_, _], _ => rfl) a7 l7 c7 k7
  have S8 := std_mk X G (x := "known_within") (st := sKnownIn) (ps := ["kind"]) (fun _ _ _ _ _ _ us hl => match us, hl with | [_], _ => rfl) a8 l8 c8 k8
  have S9 := std_mk X G (x := "is_known") (st := sIsKnown) (ps := ["kind"]) (fun _ _ _ _ _ _ us hl => match us, hl with | [_], _ => rfl) a9 l9 c9 k9
  have S10 := std_mk X G (x := "names_of") (st := sNames) (ps := ["one", "other"]) (fun _ _ _ _ _ _ us hl => match us, hl with | [_, _], _ => rfl) a10 l10 c10 k10
  have S11 := std_mk X G (x := "entry_less") (st := sEntryLess) (ps := ["one", "other"]) (fun _ _ _ _ _ _ us hl => match us, hl with | [_, _], _ => rfl) a11 l11 c11 k11
  have S12 := std_mk X G (x := "less_known") (st := sLess) (ps := ["one", "other"]) (fun _ _ _ _ _ _ us hl => match us, hl with | [_, _], _ => rfl) a12 l12 c12 k12
  have S13 := std_mk X G (x := "knows_less") (st := sKnows) (ps := ["one", "other"]) (fun _ _ _ _ _ _ us hl => match us, hl with | [_, _], _ => rfl) a13 l13 c13 k13
  have S14 := std_mk X G (x := "_law_state") (st := sState) (ps := ["script", "k"]) (fun _ _ _ _ _ _ us hl => match us, hl with | [_, _], _ => rfl) a14 l14 c14 k14
  have S15 := std_mk X G (x := "_law_take") (st := sTake) (ps := ["state", "many"]) (fun _ _ _ _ _ _ us hl => match us, hl with | [_, _], _ => rfl) a15 l15 c15 k15
  have S16 := std_mk X G (x := "_law_kind") (st := sKind) (ps := ["state", "deep"]) (fun _ _ _ _ _ _ us hl => match us, hl with | [_, _], _ => rfl) a16 l16 c16 k16
  have S17 := std_mk X G (x := "_law_near") (st := sNear) (ps := ["state", "kind", "deep"]) (fun _ _ _ _ _ _ us hl => match us, hl with | [_, _, _], _ => rfl) a17 l17 c17 k17
  have S18 := std_mk X G (x := "_law_forgot") (st := sForgot) (ps := ["state", "kind"]) (fun _ _ _ _ _ _ us hl => match us, hl with | [_, _], _ => rfl) a18 l18 c18 k18
  have S19 := std_mk X G (x := "law") (st := sLaw) (ps := ["script"]) (fun _ _ _ _ _ _ us hl => match us, hl with | [_], _ => rfl) a19 l19 c19 k19
  have T : Glb K mg := {
    free := ⟨qF, PySem.W.mg_of X G aF, tup_at lF cF eF zF rF⟩
    non := ⟨qN, PySem.W.mg_of X G aN, tup_at lN cN eN zN rN⟩
    any := ⟨qA, PySem.W.mg_of X G aA, tup_at lA cA eA zA rA⟩
    plain := ⟨qP, PySem.W.mg_of X G aP, tup_at lP cP eP zP rP⟩
    parts := ⟨tp, PySem.W.mg_of X G ap⟩
    deep := ⟨td, PySem.W.mg_of X G ad⟩
    signs := ⟨ts, PySem.W.mg_of X G as⟩
    small := ⟨tL, PySem.W.mg_of X G aL⟩
    len := PySem.W.mg_none_of X G b_len
    isinst := PySem.W.mg_none_of X G b_isinstance
    all := PySem.W.mg_none_of X G b_all
    zip := PySem.W.mg_none_of X G b_zip
    sum := PySem.W.mg_none_of X G b_sum
    sorted := PySem.W.mg_none_of X G b_sorted
    set := PySem.W.mg_none_of X G b_set
    list := PySem.W.mg_none_of X G b_list
    int := PySem.W.mg_none_of X G b_int
    tuple := PySem.W.mg_none_of X G b_tuple
    str := PySem.W.mg_none_of X G b_str
  }
  exact ⟨_, fun s v => .of_eq rfl, fun base _ _ => all_law T S1 S2 S3 S4 S5 S6 S7 S8 S9 S10 S11 S12 S13 S14 S15 S16 S17 S18 S19⟩
theorem walk {l : PySem.W.OpenLaw} {q : Program} {loose : List Str} {XP : (Str → Option Value) → Heap → Prop} {YP : World → Heap → Prop} {d : DefRec} {K : Params → PySem.W.Frag} (hn : l.most = some 63) (hdf : d.params.defaults = [])
    (hY : ∀ (w : World) (h : Heap), YP w h → (K w.params).In h)
    (F : ∀ (w : World) (mg : Str → Option Value) (fa : Addr) (h : Heap), (K w.params).In h → h.Ns mainGlobals mg → mg d.name = some (.ref fa) →
      ∃ fd : FuncData, (∀ (s : Shared) (u : Value), BindsTo s fd ⟨[u], []⟩ [("script", u)]) ∧ ∀ base : Heap, (K w.params).In base → base.Ns mainGlobals mg → FnOk l.prog w (K w.params) mg base CX0 12 fa fd ["script"] (spLaw (K w.params))) :
    PySem.W.WalkO q loose XP YP l.row.toRowW d [] (fun f vs => PySem.call f vs) :=
  L2.walk_of (n := 63) (k := 12) (x := "script") (CX := fun _ => CX0) (sp := fun w => spLaw (K w.params)) hn (by decide) hdf ⟨rfl, by decide, by decide⟩ hY F (fun _ _ a ns hl _ hS => ⟨a, ns, rfl, hS, fun _ => rfl⟩) fun _ _ _ _ _ z => z
end CW
open PySem PySem.W PyProof.Rows
set_option maxRecDepth 100000 in
set_option maxHeartbeats 0 in
theorem PySem.Challenge.cw_castwright_k14_whole_an_order_holds : PySem.Challenge.rw_castwright_k14_whole_an_order.Holds := by
  w_on; o_law; k_head; (case hw => w_witness2)
  k_fill
  refine CW.walk (l := PySem.Challenge.rw_castwright_k14_whole_an_order) rfl rfl (fun w h Y => PySem.W.kIn_of Y) ?F
  case F =>
    intro w mg fa h KX G hmg
    refine' CW.all_mk KX G hmg ?a1 ?l1 ?c1 ?k1 ?a2 ?l2 ?c2 ?k2 ?a3 ?l3 ?c3 ?k3 ?a4 ?l4 ?c4 ?k4 ?a5 ?l5 ?c5 ?k5 ?a6 ?l6 ?c6 ?k6 ?a7 ?l7 ?c7 ?k7 ?a8 ?l8 ?c8 ?k8 ?a9 ?l9 ?c9 ?k9 ?a10 ?l10 ?c10 ?k10 ?a11 ?l11 ?c11 ?k11 ?a12 ?l12 ?c12 ?k12 ?a13 ?l13 ?c13 ?k13 ?a14 ?l14 ?c14 ?k14 ?a15 ?l15 ?c15 ?k15 ?a16 ?l16 ?c16 ?k16 ?a17 ?l17 ?c17 ?k17 ?a18 ?l18 ?c18 ?k18 ?a19 ?l19 ?c19 ?k19 ?aF ?lF ?cF ?eF ?zF ?rF ?aN ?lN ?cN ?eN ?zN ?rN ?aA ?lA ?cA ?eA ?zA ?rA ?aP ?lP ?cP ?eP ?zP ?rP ?ap ?ad ?as ?aL ?b_len ?b_isinstance ?b_all ?b_zip ?b_sum ?b_sorted ?b_set ?b_list ?b_int ?b_tuple ?b_str
    (case a1 => k_is); (case l1 => k_is); (case c1 => k_is); (case k1 => k_is)
    (case a2 => k_is); (case l2 => k_is); (case c2 => k_is); (case k2 => k_is)
    (case a3 => k_is); (case l3 => k_is); (case c3 => k_is); (case k3 => k_is)
    (case a4 => k_is); (case l4 => k_is); (case c4 => k_is); (case k4 => k_is)
    (case a5 => k_is); (case l5 => k_is); (case c5 => k_is); (case k5 => k_is)
    (case a6 => k_is); (case l6 => k_is); (case c6 => k_is); (case k6 => k_is)
    (case a7 => k_is); (case l7 => k_is); (case c7 => k_is); (case k7 => k_is)
    (case a8 => k_is); (case l8 => k_is); (case c8 => k_is); (case k8 => k_is)
    (case a9 => k_is); (case l9 => k_is); (case c9 => k_is); (case k9 => k_is)
    (case a10 => k_is); (case l10 => k_is); (case c10 => k_is); (case k10 => k_is)
    (case a11 => k_is); (case l11 => k_is); (case c11 => k_is); (case k11 => k_is)
    (case a12 => k_is); (case l12 => k_is); (case c12 => k_is); (case k12 => k_is)
    (case a13 => k_is); (case l13 => k_is); (case c13 => k_is); (case k13 => k_is)
    (case a14 => k_is); (case l14 => k_is); (case c14 => k_is); (case k14 => k_is)
    (case a15 => k_is); (case l15 => k_is); (case c15 => k_is); (case k15 => k_is)
    (case a16 => k_is); (case l16 => k_is); (case c16 => k_is); (case k16 => k_is)
    (case a17 => k_is); (case l17 => k_is); (case c17 => k_is); (case k17 => k_is)
    (case a18 => k_is); (case l18 => k_is); (case c18 => k_is); (case k18 => k_is)
    (case a19 => k_is); (case l19 => k_is); (case c19 => k_is); (case k19 => k_is)
    (case aF => k_is); (case lF => k_is); (case cF => rfl); (case eF => rfl); (case zF => decide)
    (case rF => exact (.cons ⟨_, rfl⟩ .nil))
    (case aN => k_is); (case lN => k_is); (case cN => rfl); (case eN => rfl); (case zN => decide)
    (case rN => exact (.cons ⟨_, rfl⟩ .nil))
    (case aA => k_is); (case lA => k_is); (case cA => rfl); (case eA => rfl); (case zA => decide)
    (case rA => exact (.cons ⟨_, rfl⟩ .nil))
    (case aP => k_is); (case lP => k_is); (case cP => rfl); (case eP => rfl); (case zP => decide)
    (case rP => exact (.cons ⟨_, rfl⟩ (.cons ⟨_, rfl⟩ (.cons ⟨_, rfl⟩ .nil))))
    (case ap => k_is); (case ad => k_is); (case as => k_is); (case aL => k_is); (case b_len => k_is); (case b_isinstance => k_is); (case b_all => k_is); (case b_zip => k_is); (case b_sum => k_is); (case b_sorted => k_is); (case b_set => k_is); (case b_list => k_is); (case b_int => k_is); (case b_tuple => k_is); (case b_str => k_is)

