import PyProof.Rows.All
import Wide.All
import OpenK.AllK
import Wide.FinOn
import HandS.ForMost
import HandS.Strs
import HandS.SetFor
import HandS.Style
import HandS.Conv
import HandS.Wide
import HandS.WideBits
import PySem.Challenge.RW_beatscan_k01_whole_sets
set_option Elab.async false
set_option linter.all false
set_option maxRecDepth 100000
set_option maxHeartbeats 8000000
namespace K01
/-! The plain law: sets of bytes as numbers, ascending lists, ranges. No program in sight. -/

/-- the set of some numbers -/
def setN (ns : List Int) : Nat := ns.foldl (fun S n => S ||| 2 ^ n.toNat) 0

theorem setN_snoc (ns : List Int) (n : Int) : setN (ns ++ [n]) = setN ns ||| 2 ^ n.toNat := by
  unfold setN
  rw [List.foldl_append]
  rfl

theorem foldl_bit (b : Nat) : ∀ (ns : List Int) (S : Nat), (∀ n ∈ ns, 0 ≤ n) →
    (ns.foldl (fun S n => S ||| 2 ^ n.toNat) S).testBit b = (S.testBit b || decide ((b : Int) ∈ ns))
  | [], S, _ => by simp
  | n :: r, S, h => by
    have h0 : 0 ≤ n := h n List.mem_cons_self
    have e : decide (n.toNat = b) = decide ((b : Int) = n) := by
      by_cases q : n.toNat = b
      · have q2 : (b : Int) = n := by omega
        rw [decide_eq_true q, decide_eq_true q2]
      · have q2 : ¬ (b : Int) = n := by omega
        rw [decide_eq_false q, decide_eq_false q2]
    rw [List.foldl_cons, foldl_bit b r _ fun k hk => h k (List.mem_cons_of_mem _ hk), Nat.testBit_or, Nat.testBit_two_pow, e, Bool.or_assoc]
    congr 1
    rw [← Bool.decide_or]
    simp only [List.mem_cons]

theorem setN_bit {ns : List Int} (h : ∀ n ∈ ns, 0 ≤ n) (b : Nat) : (setN ns).testBit b = decide ((b : Int) ∈ ns) := by
  unfold setN
  rw [foldl_bit b ns 0 h, Nat.zero_testBit, Bool.false_or]

/-- the numbers below n with p, ascending -/
def sel (p : Nat → Bool) (n : Nat) : List Int := ((List.range n).filter p).map fun i : Nat => (i : Int)

theorem sel_zero (p : Nat → Bool) : sel p 0 = [] := rfl
theorem sel_yes {p : Nat → Bool} {n : Nat} (h : p n = true) : sel p (n + 1) = sel p n ++ [(n : Int)] := by
  unfold sel
  rw [List.range_succ, List.filter_append, List.map_append]
  simp [h]
theorem sel_no {p : Nat → Bool} {n : Nat} (h : p n = false) : sel p (n + 1) = sel p n := by
  unfold sel
  rw [List.range_succ, List.filter_append, List.map_append]
  simp [h]
theorem mem_sel {p : Nat → Bool} {n : Nat} {z : Int} : z ∈ sel p n ↔ ∃ i, i < n ∧ p i = true ∧ z = (i : Int) := by
  unfold sel
  constructor
  · intro h
    obtain ⟨i, hi, e⟩ := List.mem_map.mp h
    obtain ⟨h1, h2⟩ := List.mem_filter.mp hi
    exact ⟨i, List.mem_range.mp h1, h2, e.symm⟩
  · rintro ⟨i, h1, h2, rfl⟩
    exact List.mem_map.mpr ⟨i, List.mem_filter.mpr ⟨List.mem_range.mpr h1, h2⟩, rfl⟩
theorem sel_up (p : Nat → Bool) : ∀ n, (sel p n).Pairwise (· < ·)
  | 0 => List.Pairwise.nil
  | n + 1 => by
    cases h : p n with
    | false => rw [sel_no h]; exact sel_up p n
    | true =>
      rw [sel_yes h]
      refine List.pairwise_append.mpr ⟨sel_up p n, List.pairwise_singleton _ _, fun a ha b hb => ?_⟩
      obtain ⟨i, hi, _, rfl⟩ := mem_sel.mp ha
      rw [List.mem_singleton.mp hb]
      omega
theorem sel_len (p : Nat → Bool) : ∀ n, (sel p n).length ≤ n
  | 0 => Nat.le_refl _
  | n + 1 => by
    have ih := sel_len p n
    cases h : p n with
    | false => rw [sel_no h]; omega
    | true => rw [sel_yes h, List.length_append, List.length_singleton]; omega

/-- two ascending lists with the same items are one -/
theorem up_ext : ∀ {l m : List Int}, l.Pairwise (· < ·) → m.Pairwise (· < ·) → (∀ z, z ∈ l ↔ z ∈ m) → l = m
  | [], [], _, _, _ => rfl
  | [], y :: m, _, _, h => absurd ((h y).mpr List.mem_cons_self) (by simp)
  | x :: l, [], _, _, h => absurd ((h x).mp List.mem_cons_self) (by simp)
  | x :: l, y :: m, hl, hm, h => by
    have l1 := (List.pairwise_cons.mp hl).1
    have m1 := (List.pairwise_cons.mp hm).1
    have e : x = y := by
      rcases List.mem_cons.mp ((h x).mp List.mem_cons_self) with q | q
      · exact q
      · rcases List.mem_cons.mp ((h y).mpr List.mem_cons_self) with q' | q'
        · exact q'.symm
        · have := m1 x q
          have := l1 y q'
          omega
    subst e
    have t := up_ext (List.pairwise_cons.mp hl).2 (List.pairwise_cons.mp hm).2 fun z => by
      constructor
      · intro hz
        rcases List.mem_cons.mp ((h z).mp (List.mem_cons_of_mem _ hz)) with q | q
        · have := l1 z hz
          omega
        · exact q
      · intro hz
        rcases List.mem_cons.mp ((h z).mpr (List.mem_cons_of_mem _ hz)) with q | q
        · have := m1 z hz
          omega
        · exact q
    rw [t]

/-- one step of the ranges -/
def stepR (fs : List (Int × Int)) (n : Int) : List (Int × Int) := match fs.getLast? with
  | some (a, b) => if b = n - 1 then fs.dropLast ++ [(a, n)] else fs ++ [(n, n)]
  | none => fs ++ [(n, n)]
/-- the ranges of a list -/
def rangesL (ns : List Int) : List (Int × Int) := ns.foldl stepR []
theorem rangesL_snoc (ns : List Int) (n : Int) : rangesL (ns ++ [n]) = stepR (rangesL ns) n := by
  unfold rangesL
  rw [List.foldl_append]
  rfl
theorem stepR_nil (n : Int) : stepR [] n = [(n, n)] := rfl
theorem stepR_join (fs : List (Int × Int)) (a n : Int) : stepR (fs ++ [(a, n - 1)]) n = fs ++ [(a, n)] := by
  unfold stepR
  rw [List.getLast?_concat]
  show (if n - 1 = n - 1 then (fs ++ [(a, n - 1)]).dropLast ++ [(a, n)] else _) = _
  rw [if_pos rfl, List.dropLast_concat]
theorem stepR_new (fs : List (Int × Int)) (a b n : Int) (h : ¬ b = n - 1) : stepR (fs ++ [(a, b)]) n = fs ++ [(a, b)] ++ [(n, n)] := by
  unfold stepR
  rw [List.getLast?_concat]
  show (if b = n - 1 then (fs ++ [(a, b)]).dropLast ++ [(a, n)] else _) = _
  rw [if_neg h]
theorem stepR_len (fs : List (Int × Int)) (n : Int) : (stepR fs n).length ≤ fs.length + 1 := by
  rcases List.eq_nil_or_concat fs with rfl | ⟨gs, ⟨a, b⟩, rfl⟩
  · exact Nat.le_refl _
  · rw [List.concat_eq_append]
    by_cases h : b = n - 1
    · subst h
      rw [stepR_join]
      simp
    · rw [stepR_new _ _ _ _ h]
      simp
theorem foldl_len : ∀ (ns : List Int) (fs : List (Int × Int)), (ns.foldl stepR fs).length ≤ fs.length + ns.length
  | [], fs => Nat.le_refl _
  | n :: r, fs => by
    have h1 := foldl_len r (stepR fs n)
    have h2 := stepR_len fs n
    rw [List.foldl_cons, List.length_cons]
    omega
theorem rangesL_len (ns : List Int) : (rangesL ns).length ≤ ns.length := by
  have h := foldl_len ns []
  rw [List.length_nil] at h
  unfold rangesL
  omega

/-- a set of bytes and the list that is due for it -/
structure Good (S : Nat) (due : List Int) : Prop where
  byte : ∀ n ∈ due, 0 ≤ n ∧ n < 256
  up : due.Pairwise (· < ·)
  lt : S < 2 ^ 256
  bit : ∀ b : Nat, b < 256 → S.testBit b = decide ((b : Int) ∈ due)

theorem Good.nn {S : Nat} {due : List Int} (g : Good S due) : ∀ n ∈ due, 0 ≤ n := fun n hn => (g.byte n hn).1
theorem up_len : ∀ {l : List Int} {a : Int} {k : Nat}, l.Pairwise (· < ·) → (∀ n ∈ l, a ≤ n ∧ n < a + k) → l.length ≤ k
  | [], _, _, _, _ => Nat.zero_le _
  | x :: l, a, k, h, hb => by
    have hx := hb x List.mem_cons_self
    have ih := up_len (l := l) (a := x + 1) (k := (a + k - (x + 1)).toNat) (List.pairwise_cons.mp h).2 fun n hn => by
      have h1 := (List.pairwise_cons.mp h).1 n hn
      have h2 := hb n (List.mem_cons_of_mem _ hn)
      omega
    rw [List.length_cons]
    omega
theorem Good.len {S : Nat} {due : List Int} (g : Good S due) : due.length ≤ 256 :=
  up_len (a := 0) (k := 256) g.up fun n hn => by have := g.byte n hn; omega
theorem Good.members {S : Nat} {due : List Int} (g : Good S due) : sel (fun b => S.testBit b) 256 = due := by
  refine up_ext (sel_up _ _) g.up fun z => ?_
  constructor
  · intro h
    obtain ⟨i, hi, hb, rfl⟩ := mem_sel.mp h
    have hb : S.testBit i = true := hb
    rw [g.bit i hi] at hb
    exact of_decide_eq_true hb
  · intro h
    have hz := g.byte z h
    refine mem_sel.mpr ⟨z.toNat, by omega, ?_, by omega⟩
    have e : ((z.toNat : Nat) : Int) = z := by omega
    show S.testBit z.toNat = true
    rw [g.bit z.toNat (by omega), e]
    exact decide_eq_true h
theorem Good.back {S : Nat} {due : List Int} (g : Good S due) : setN due = S := by
  refine Nat.eq_of_testBit_eq fun b => ?_
  rw [setN_bit g.nn]
  by_cases h : b < 256
  · exact (g.bit b h).symm
  · have h1 : S.testBit b = false := Nat.testBit_lt_two_pow (Nat.lt_of_lt_of_le g.lt (Nat.pow_le_pow_right (by decide) (by omega)))
    rw [h1]
    refine decide_eq_false fun hm => ?_
    have := (g.byte _ hm).2
    omega
theorem xor_twice (A S : Nat) : A ^^^ (A ^^^ S) = S := by
  rw [← Nat.xor_assoc, Nat.xor_self, Nat.zero_xor]

/-- set_of of a list whose items are those of due -/
theorem good_of {ns due : List Int} (hb : ∀ n ∈ due, 0 ≤ n ∧ n < 256) (hu : due.Pairwise (· < ·)) (hm : ∀ z, z ∈ ns ↔ z ∈ due) : Good (setN ns) due := by
  have nn : ∀ n ∈ ns, 0 ≤ n := fun n hn => (hb n ((hm n).mp hn)).1
  refine ⟨hb, hu, ?_, fun b _ => ?_⟩
  · refine Nat.lt_pow_two_of_testBit _ fun i hi => ?_
    rw [setN_bit nn]
    refine decide_eq_false fun hz => ?_
    have := (hb _ ((hm _).mp hz)).2
    omega
  · rw [setN_bit nn, decide_eq_decide]
    exact hm _
/-- the ints f .. l -/
def upto (f l : Int) : List Int := (List.range (l + 1 - f).toNat).map fun i : Nat => f + (i : Int)
theorem mem_upto {f l z : Int} : z ∈ upto f l ↔ f ≤ z ∧ z ≤ l := by
  unfold upto
  constructor
  · intro h
    obtain ⟨i, hi, rfl⟩ := List.mem_map.mp h
    have := List.mem_range.mp hi
    omega
  · intro h
    exact List.mem_map.mpr ⟨(z - f).toNat, List.mem_range.mpr (by omega), by omega⟩
theorem upto_up (f l : Int) : (upto f l).Pairwise (· < ·) := by
  unfold upto
  refine List.Pairwise.map _ (fun a b h => ?_) (List.pairwise_lt_range)
  show f + (a : Int) < f + (b : Int)
  omega
theorem good_range {f l : Nat} (h : f ≤ l) (hl : l < 256) : Good (2 ^ (l + 1) - 2 ^ f) (upto f l) := by
  refine ⟨fun n hn => ?_, upto_up _ _, ?_, fun b _ => ?_⟩
  · have := mem_upto.mp hn
    omega
  · refine Nat.lt_of_lt_of_le (Nat.sub_lt (Nat.two_pow_pos _) (Nat.two_pow_pos _)) (Nat.pow_le_pow_right (by decide) (by omega))
  · have e : 2 ^ (l + 1) - 2 ^ f = 2 ^ f * (2 ^ (l + 1 - f) - 1) := by
      rw [Nat.mul_sub, Nat.mul_one, ← Nat.pow_add, show f + (l + 1 - f) = l + 1 by omega]
    rw [e, Nat.testBit_two_pow_mul, Nat.testBit_two_pow_sub_one, ← Bool.decide_and, decide_eq_decide, mem_upto]
    omega
theorem good_less {due : List Int} (hb : ∀ n ∈ due, 0 ≤ n ∧ n < 256) : Good ((2 ^ 256 - 1) ^^^ setN due) (sel (fun b => !decide ((b : Int) ∈ due)) 256) := by
  have nn : ∀ n ∈ due, 0 ≤ n := fun n hn => (hb n hn).1
  have hbit : ∀ b : Nat, ((2 ^ 256 - 1) ^^^ setN due).testBit b = (decide (b < 256) ^^ decide ((b : Int) ∈ due)) := fun b => by
    rw [Nat.testBit_xor, Nat.testBit_two_pow_sub_one, setN_bit nn]
  refine ⟨fun n hn => ?_, sel_up _ _, ?_, fun b h => ?_⟩
  · obtain ⟨i, hi, _, rfl⟩ := mem_sel.mp hn
    omega
  · refine Nat.lt_pow_two_of_testBit _ fun i hi => ?_
    rw [hbit, decide_eq_false (show ¬ i < 256 by omega), Bool.false_xor]
    refine decide_eq_false fun hz => ?_
    have := (hb _ hz).2
    omega
  · rw [hbit, decide_eq_true h, Bool.true_xor]
    by_cases hm : (b : Int) ∈ due
    · have h2 : ¬ (b : Int) ∈ sel (fun b => !decide ((b : Int) ∈ due)) 256 := fun q => by
        obtain ⟨i, _, hi, e⟩ := mem_sel.mp q
        have e' : b = i := by omega
        subst e'
        have hi : (!decide ((b : Int) ∈ due)) = true := hi
        rw [decide_eq_true hm] at hi
        exact absurd hi (by decide)
      rw [decide_eq_true hm, decide_eq_false h2]
      rfl
    · have h2 : (b : Int) ∈ sel (fun b => !decide ((b : Int) ∈ due)) 256 := mem_sel.mpr ⟨b, h, by show (!decide ((b : Int) ∈ due)) = true; rw [decide_eq_false hm]; rfl, rfl⟩
      rw [decide_eq_false hm, decide_eq_true h2]
      rfl
end K01
namespace K01
open PySem PySem.Spec PyProof.Rows L2

/-! ### a |= b -/
theorem ipOr {X : Cx} : PIp X .BitOr (rI0 fun i j => .int (Builtin.bitOr i j)) :=
  fun pins s σ H x y v u Q I rx ry q => iop_or pins s σ H x y v u Q I rx ry q

/-! ### set(xs), xs a list of ints -/
/-- the object that set.__new__ lays -/
abbrev setZero (w : World) : Obj :=
  { cls := .type "set", dict := none, data := .set #[] 0 (.fresh 0 0 (!w.params.followText "set-order")) }
section
variable {P : Program} {w : World} {A : Around} {E : Value → Shared → Prop} {s : Shared}
/-- what set(xs) leaves: the set at the heap's old end, all else as it was -/
abbrev Filled (w : World) (s : Shared) (ns : List Int) (h' : Heap) (c : Nat) : Prop :=
  SetR w h' s.heap.objs.size (fun j => decide (j ∈ ns)) c ∧ c ≤ ns.length ∧ ∀ b o, s.heap.get? b = some o → h'.get? b = some o

set_option maxHeartbeats 8000000 in
theorem set_of_list {l : Addr} {items : Array Value} (ns : List Int) {Q : Value → Shared → Prop} (hh : A.handled = none)
    (hl : s.heap.IsList l items) (hit : IntsAre items.toList ns) (hb : ns.length + 1 < scanBound)
    (h : ∀ (h' : Heap) (tk c : Nat), Filled w s ns h' c → Q (.ref s.heap.objs.size) { s with heap := h', toks := tk }) :
    wpAny (model P w) A (call (.type "set") [.ref l]) Q E s := by
  have many : items.size = ns.length := by simpa using IntsAre.length hit
  obtain ⟨c0, tl0, mro0⟩ := PySem.F.called_set.mro
  have made0 := PySem.F.called_set.made
  have sub0 := PySem.F.called_set.sub
  have nt0 := PySem.F.called_set.notType
  have cc0 := PySem.F.called_set.canCreate
  have tc0 := PySem.F.typeCall_set_1 (.ref l)
  refine wpAny_call (codeAny_of_tree (show wpAny _ _ (callAny (.type "set") _) _ _ _ from wpAny_pure ⟨Code.quiet_builtin _ (by decide +kernel), codeAny_builtin PySem.F.entry_type_call ?_⟩))
  rw [Around.under_plain (weight_type_call_type "set" [.ref l] []) rfl]
  repeat (any_goals (first | assumption | wp_step))
  refine codeAny_mono (code_set_led1 (.ref l) (E := E) (Q₁ := fun ob t => ob = .ref s.heap.objs.size ∧ t = { s with heap := s.heap.push (setZero w) }) ⟨rfl, rfl⟩) fun r t hr => ?_
  match r, hr with
  | .error e, hr => exact hr
  | .ok .next, hr => exact hr.elim
  | .ok .brk, hr => exact hr.elim
  | .ok .cont, hr => exact hr.elim
  | .ok (.ret ob), hr =>
    obtain ⟨rfl, rfl⟩ := hr
    have gS : (s.heap.push (setZero w)).get? s.heap.objs.size = some (setZero w) := Heap.get?_push_size _ rfl
    have tS : Shared.TypeIs { s with heap := s.heap.push (setZero w) } (.ref s.heap.objs.size) "set" := ⟨_, gS, rfl⟩
    have li0 := PySem.F.called_set.init.lookup
    have bi0 := PySem.F.called_set.init.bind (.ref s.heap.objs.size)
    repeat (any_goals (first | assumption | wp_step))
    refine codeAny_mono (codeAny_call_builtin (R := wants (fun r t => r = .none ∧ ∃ h' tk c, t = { s with heap := h', toks := tk } ∧ Filled w s ns h' c) E)
      PySem.F.called_set.init.plain PySem.F.entry_set_init (check_set_init_1 tS ?_)) fun r t hr => ?_
    · obtain ⟨⟨cl, dd, dt, sl⟩, gl, cl0, nl, dt0⟩ := hl
      simp only at cl0 dt0
      subst cl0
      subst dt0
      have gl' : (s.heap.push (setZero w)).get? l = some { cls := .type "list", dict := dd, data := .seq items nl, slots := sl } := Heap.get?_push_of_some _ gl
      have nsub := PySem.F.sub_list_set
      have nfro := PySem.F.sub_list_frozenset
      have ndic : (Value.type "list" == Value.type "dict") = false := by decide
      have isl : (s.heap.push (setZero w)).IsList l items := ⟨_, gl', rfl, nl, rfl⟩
      unfold Builtin.«set.__init__» noKeywords Builtin.Frozenset.updateFrom
      generalize qI : pyIter = PI
      wp_walk
      subst qI
      refine wpAny_pyIter_list isl (wpAny_bind (wpAny_runValue ?_))
      have lt0 : l < s.heap.objs.size := Heap.lt_size gl
      have hd3 : A.in1.in1.in1.handled = none := by simp [hh]
      have zp : (s.heap.push (setZero w)).objs.size = s.heap.objs.size + 1 := Heap.size_push ..
      have neI : l ≠ (s.heap.push (setZero w)).objs.size := by
        rw [zp]
        exact Nat.ne_of_lt (Nat.lt_succ_of_lt lt0)
      have out : s.heap.objs.size ∉ [(s.heap.push (setZero w)).objs.size, l] := by
        rw [zp]
        simp only [List.mem_cons, List.not_mem_nil, or_false, not_or]
        exact ⟨Nat.ne_of_lt (Nat.lt_succ_self _), Nat.ne_of_gt lt0⟩
      have val : ∀ (i : Nat) (v : Value), items[i]? = some v → ∃ k t, ns[i]? = some k ∧ v = .int k t := fun i v hv => by
        have hi : i < ns.length := many ▸ (Array.getElem?_eq_some_iff.mp hv).1
        obtain ⟨t, e⟩ := IntsAre.int_at hit i v (by rw [Array.getElem?_toList]; exact hv)
        have g := List.getElem?_eq_getElem hi
        exact ⟨ns[i], t, g, by rw [e, List.getD_eq_getElem?_getD, g]; rfl⟩
      refine set_update_ints (Walks.list hd3 _ l neI items).toS s.heap.objs.size out ns many hb val (items.size - 0) 0 _ rfl (Nat.zero_le _)
        ⟨⟨_, Heap.get?_push_size _ rfl, rfl, rfl⟩, isl.push _⟩ ⟨0, Nat.le_refl 0, setR_new_at (Heap.get?_push_of_some _ gS)⟩ fun s' c' hm hc' hS' => ?_
      obtain ⟨h', g', d', tk', os'⟩ := s'
      have e1 : g' = s.gens := hm.gens
      have e2 : d' = s.drawn := hm.drawn
      have e3 : os' = s.os := hm.os
      subst e1 e2 e3
      refine wpAny_pure ?_
      show wpAny _ _ (ret Value.none) _ _ _
      refine wpAny_pure ⟨rfl, h', tk', c', rfl, hS', many ▸ hc', fun b o e => ?_⟩
      have hb0 : b < s.heap.objs.size := Heap.lt_size e
      refine hm.heap b o ?_ (Heap.get?_push_of_some _ (Heap.get?_push_of_some _ e))
      rw [zp]
      simp only [List.mem_cons, List.not_mem_nil, or_false, not_or]
      exact ⟨Nat.ne_of_lt hb0, Nat.ne_of_lt (Nat.lt_succ_of_lt hb0)⟩
    · match r, hr with
      | .error e, hr => exact hr
      | .ok .next, hr => exact hr.elim
      | .ok .brk, hr => exact hr.elim
      | .ok .cont, hr => exact hr.elim
      | .ok (.ret r), hr =>
        obtain ⟨rfl, h', tk, c', rfl, hS'⟩ := hr
        repeat (any_goals (first | assumption | wp_step))
        exact h _ _ _ hS'
end

theorem ints_of_vals : ∀ {ns : List Int} {us : List Value}, Vals (ns.map V.int) us → IntsAre us ns
  | [], _, .nil => .nil
  | n :: r, _, .cons ⟨t, e⟩ q => by
    subst e
    exact .cons n t (ints_of_vals q)
theorem one_ref {a : Addr} {us : List Value} (r : Vals [V.ref a] us) : us = [.ref a] := by
  cases r with
  | cons p q =>
    cases q
    cases p
    rfl
/-- set(xs): a new set with the items of xs -/
def rSetI (K : PySem.W.Frag) (w : World) : List V → Hp → VK → Prop := fun xs H Q => ∃ (l : Addr) (ns : List Int), xs = [V.ref l] ∧ SqL K H l (ns.map V.int) ∧ ns.length < 64 ∧
  ∀ (a : Addr) (n : Nat), n ≤ ns.length → H a = none → Q (.ref a) (upd H a (SetO w a (fun j => decide (j ∈ ns)) n))
theorem cr_setI {X : Cx} (hc : X.calm = true) : CallR X (.type "set") (rSetI X.K X.w) := by
  intro pins s σ H xs us Q I r h
  obtain ⟨l, ns, rfl, hl, hf, q⟩ := h
  rw [one_ref r]
  obtain ⟨its, rv, pl, hz⟩ := I.list hl
  have free := I.hok.fresh (a := s.heap.objs.size) (Nat.le_refl _)
  refine set_of_list ns (I.ok.hd hc) pl.isList (by simpa using ints_of_vals rv) (by unfold scanBound; omega) fun h' tk c F => ?_
  exact ⟨.ref s.heap.objs.size, _, I.laid (t' := tk) F.2.2 (Nat.le_refl _) (setO_new F.1), rfl, q _ c F.2.1 free⟩
end K01
namespace K01
open PySem PySem.Spec PyProof.Rows L2

/-! ### the text by places -/
def topS (i : Nat) : Stmt := PySem.Challenge.pw_beatscan_k01_whole_sets.main.body.getD i (.Pass ⟨0, 0, 0, 0⟩)
abbrev sSetOf : Stmt := topS 2
abbrev sRangeSet : Stmt := topS 3
abbrev sHas : Stmt := topS 4
abbrev sWithout : Stmt := topS 5
abbrev sRangesOf : Stmt := topS 6
abbrev sRanges : Stmt := topS 13

/-! ### heaps -/
theorem same_new {H : Hp} {p : Addr} {o : HO} (h : H p = none) : Same H (upd H p o) := fun b x e => by
  rw [upd_ne (ne_of_none e h)]
  exact e
/-- all but what stands at a is as it was -/
def Keep (a : Addr) (H H' : Hp) : Prop := ∀ b o, H b = some o → b ≠ a → H' b = some o
theorem Keep.refl (a : Addr) (H : Hp) : Keep a H H := fun _ _ e _ => e
theorem Keep.of {a : Addr} {H H' : Hp} (h : Same H H') : Keep a H H' := fun b o e _ => h b o e
theorem Keep.trans {a : Addr} {H H1 H2 : Hp} (h : Keep a H H1) (k : Keep a H1 H2) : Keep a H H2 := fun b o e n => k b o (h b o e n) n
theorem Keep.put {a : Addr} {H : Hp} {o : HO} : Keep a H (upd H a o) := fun b x e n => by
  rw [upd_ne n]
  exact e
theorem Keep.same {a : Addr} {H H' : Hp} (h : Keep a H H') (n : H a = none) : Same H H' := fun b o e => h b o e (ne_of_none e n)
theorem Keep.sq {K : PySem.W.Frag} {a p : Addr} {H H' : Hp} {xs ys : List V} (h : Keep a H H') (ha : H a = some (.lst ys)) (hp : SqL K H p xs) (ne : xs ≠ ys) : SqL K H' p xs := by
  rcases hp with (e | ⟨o, e⟩) | e
  · refine .inl (.inl (h p _ e fun z => ?_))
    subst z
    rw [ha] at e
    exact ne (HO.lst.inj (Option.some.inj e)).symm
  · refine .inl (.inr ⟨o, h p _ e fun z => ?_⟩)
    subst z
    rw [ha] at e
    cases e
  · exact .inr e
theorem small {n : Nat} (h : n ≤ 1000) : n ≤ sizeLine := Nat.le_of_lt (small1000 h)

section
variable {P : Program} {w : World} {K : PySem.W.Frag} {mg : Str → Option Value} {base : Heap}

/-! ### set_of -/
theorem scSetOf : FnScope ["numbers", "found", "byte"] ["numbers"] (defScope sSetOf) :=
  ⟨rfl, rfl, rfl, by decide +kernel, rfl, by decide +kernel, by decide +kernel⟩
def spSetOf (K : PySem.W.Frag) : Sp := fun vs H Q _ => ∃ (a : Addr) (ns : List Int), vs = [.ref a] ∧ SqL K H a (ns.map V.int) ∧ (∀ n ∈ ns, 0 ≤ n ∧ n < 256) ∧
  Q (.int (setN ns : Nat)) H
theorem or_pow (S k : Nat) : Builtin.bitOr (S : Int) (1 * 2 ^ k) = ((S ||| 2 ^ k : Nat) : Int) := by
  have e : (1 : Int) * 2 ^ k = ((2 ^ k : Nat) : Int) := by
    rw [Int.one_mul, Int.natCast_pow]
    rfl
  rw [e, Bits.bitOr_pp (Int.natCast_nonneg _) (Int.natCast_nonneg _), Int.toNat_natCast, Int.toNat_natCast]
theorem ok_setOf {f : Addr} {fd : FuncData} (F : Fun K "set_of" "set_of" sSetOf f fd) : FnOk P w K mg base CX0 1 f fd ["numbers"] (spSetOf K) := by
  refine F.ok scSetOf (fun vs H Q E h => ?_) (fun cdv A outer s H vs Q E hr h => ?_)
  · obtain ⟨a, ns, rfl, _⟩ := h
    rfl
  · obtain ⟨a, ns, rfl, hS, hb, q⟩ := h
    refine ⟨_, pss_cons (ps_set (i := 1) scSetOf.nd rfl (.inl rfl) pe_int)
      (pss_cons (ps_for PassesOwn.never rfl (pi_list (pv 0)) (pg_name (i := 2) scSetOf.nd rfl (.inl rfl))
        (pss_one (ps_aug (i := 1) scSetOf.nd rfl (.inl rfl) (pe_op op_shl pe_int (pv 2)) ipOr)))
      (pss_one (ps_ret (pv 1)))), ?_⟩
    refine ⟨.ref a, rfl, a, rfl, ⟨_, hS⟩, for_list (K := K) (a := a) (xs := ns.map V.int)
      (fun i σ H' => ∃ y, σ = [some (.ref a), some (.int (setN (ns.take i) : Nat)), y] ∧ H' = H) ⟨none, rfl, rfl⟩ (fun i σ H' _ ⟨_, _, e⟩ => e ▸ hS) ?_ ?_⟩
    · rintro i x σ H' hx ⟨y, rfl, rfl⟩
      rw [List.getElem?_map] at hx
      obtain ⟨n, hn, rfl⟩ := Option.map_eq_some_iff.mp hx
      have b := hb n (List.mem_of_getElem? hn)
      refine ⟨_, rfl, _, rfl, 1, n, rfl, rfl, ⟨b.1, by omega, by decide⟩, _, _, rfl, rfl, some (.int n), ?_, rfl⟩
      show [some (V.ref a), some (V.int (Builtin.bitOr (setN (ns.take i) : Nat) (1 * 2 ^ n.toNat))), some (V.int n)] = _
      rw [or_pow, List.take_add_one, hn, Option.toList_some, setN_snoc]
    · rintro σ H' ⟨y, rfl, rfl⟩
      rw [List.length_map, List.take_length]
      exact ⟨_, rfl, q⟩

/-! ### range_set -/
theorem scRangeSet : FnScope ["first", "last"] ["first", "last"] (defScope sRangeSet) :=
  ⟨rfl, rfl, rfl, by decide +kernel, rfl, by decide +kernel, by decide +kernel⟩
def spRangeSet : Sp := fun vs H Q _ => ∃ (a b : Nat), vs = [.int a, .int b] ∧ a ≤ b ∧ b < 256 ∧ Q (.int ((2 ^ (b + 1) - 2 ^ a : Nat) : Int)) H
theorem pow_one (k : Nat) : (1 : Int) * 2 ^ k = ((2 ^ k : Nat) : Int) := by
  rw [Int.one_mul, Int.natCast_pow]
  rfl
theorem ok_rangeSet {f : Addr} {fd : FuncData} (F : Fun K "range_set" "range_set" sRangeSet f fd) : FnOk P w K mg base CX0 1 f fd ["first", "last"] spRangeSet := by
  refine F.ok scRangeSet (fun vs H Q E h => ?_) (fun cdv A outer s H vs Q E hr h => ?_)
  · obtain ⟨a, b, rfl, _⟩ := h
    rfl
  · obtain ⟨a, b, rfl, hab, hb, q⟩ := h
    refine ⟨_, pss_one (ps_ret (pe_op op_sub (pe_op op_shl pe_int (pe_op op_add (pv 1) pe_int)) (pe_op op_shl pe_int (pv 0)))), ?_⟩
    refine ⟨_, rfl, b, 1, rfl, rfl, 1, (b : Int) + 1, rfl, rfl, ⟨by omega, by omega, by decide⟩, _, rfl, 1, (a : Int), rfl, rfl, ⟨by omega, by omega, by decide⟩, _, _, rfl, rfl, ?_⟩
    have e : (1 : Int) * 2 ^ ((b : Int) + 1).toNat - 1 * 2 ^ (a : Int).toNat = ((2 ^ (b + 1) - 2 ^ a : Nat) : Int) := by
      rw [pow_one, pow_one, show ((b : Int) + 1).toNat = b + 1 by omega, Int.toNat_natCast, Int.ofNat_sub (Nat.pow_le_pow_right (by decide) (by omega))]
    show Q (.int (1 * 2 ^ ((b : Int) + 1).toNat - 1 * 2 ^ (a : Int).toNat)) H
    rw [e]
    exact q

/-! ### has -/
theorem scHas : FnScope ["some", "byte"] ["some", "byte"] (defScope sHas) :=
  ⟨rfl, rfl, rfl, by decide +kernel, rfl, by decide +kernel, by decide +kernel⟩
def spHas : Sp := fun vs H Q _ => ∃ (S b : Nat), vs = [.int S, .int b] ∧ Q (.bl (S.testBit b)) H
theorem ok_has {f : Addr} {fd : FuncData} (F : Fun K "has" "has" sHas f fd) : FnOk P w K mg base CX0 1 f fd ["some", "byte"] spHas := by
  refine F.ok scHas (fun vs H Q E h => ?_) (fun cdv A outer s H vs Q E hr h => ?_)
  · obtain ⟨S, b, rfl, _⟩ := h
    rfl
  · obtain ⟨S, b, rfl, q⟩ := h
    refine ⟨_, pss_one (ps_ret (pe_cmpR op_eq (pe_op op_odd (pe_op op_shrN (pv 0) (pv 1)) pe_int) pe_int (nomark _))), ?_⟩
    refine ⟨_, rfl, _, rfl, (S : Int), b, rfl, rfl, S / 2 ^ b, ?_, rfl, rfl, ?_⟩
    · rw [Int.natCast_ediv, Int.natCast_pow]
      rfl
    · have e : decide (V.int ((S / 2 ^ b % 2 : Nat) : Int) = V.int 1) = S.testBit b := by
        rw [Nat.testBit_eq_decide_div_mod_eq, decide_eq_decide]
        constructor
        · intro z
          have := V.int.inj z
          omega
        · intro z
          rw [z]
          rfl
      rw [e]
      exact q

/-! ### without -/
theorem scWithout : FnScope ["some"] ["some"] (defScope sWithout) :=
  ⟨rfl, rfl, rfl, by decide +kernel, rfl, by decide +kernel, by decide +kernel⟩
def spWithout : Sp := fun vs H Q _ => ∃ S : Nat, vs = [.int S] ∧ Q (.int (((2 ^ 256 - 1) ^^^ S : Nat) : Int)) H
theorem ok_without {f : Addr} {fd : FuncData} (F : Fun K "without" "without" sWithout f fd) (gA : ∃ t, mg "ALL" = some (.int ((2 ^ 256 - 1 : Nat) : Int) t)) :
    FnOk P w K mg base CX0 1 f fd ["some"] spWithout := by
  refine F.ok scWithout (fun vs H Q E h => ?_) (fun cdv A outer s H vs Q E hr h => ?_)
  · obtain ⟨S, rfl, _⟩ := h
    rfl
  · obtain ⟨S, rfl, q⟩ := h
    obtain ⟨t, gA⟩ := gA
    refine ⟨_, pss_one (ps_ret (pe_op op_xor (pe_glob (v := .int ((2 ^ 256 - 1 : Nat) : Int)) rfl gA ⟨_, rfl⟩) (pv 0))), ?_⟩
    refine ⟨_, rfl, _, _, rfl, rfl, ?_⟩
    show Q (.int (Builtin.bitXor ((2 ^ 256 - 1 : Nat) : Int) (S : Int))) H
    rw [Bits.bitXor_pp (Int.natCast_nonneg _) (Int.natCast_nonneg _), Int.toNat_natCast, Int.toNat_natCast]
    exact q
end
end K01
namespace K01
open PySem PySem.Spec PyProof.Rows L2

/-! ### lists of pairs: how they stand in the heap, how they are compared -/
/-- at p a list of tuples (a, b) -/
def Rng (H : Hp) (p : Addr) (qs : List (Int × Int)) : Prop :=
  ∃ ts : List Addr, H p = some (.lst (ts.map V.ref)) ∧ Paired (fun t (q : Int × Int) => H t = some (.tup [.int q.1, .int q.2])) ts qs
abbrev pairD (q : Int × Int) : PyData := .tuple [.int q.1, .int q.2]
theorem pairD_lay : ∀ qs : List (Int × Int), PyData.canLayAll0 (qs.map pairD) = true
  | [] => by simp [PyData.canLayAll0]
  | q :: r => by simp [PyData.canLayAll0, PyData.canLay0, pairD_lay r]
theorem pairD_depth : ∀ qs : List (Int × Int), PyData.depthAll (qs.map pairD) ≤ 1
  | [] => by simp [PyData.depthAll]
  | q :: r => by
    have h := pairD_depth r
    simp only [List.map_cons, PyData.depthAll, PyData.depth]
    omega
theorem shape_pairs (qs : List (Int × Int)) : SeqAt.shaped (.list (qs.map pairD)) = true := by
  have h1 := pairD_lay qs
  have h2 := pairD_depth qs
  unfold SeqAt.shaped
  rw [Bool.and_eq_true, decide_eq_true_eq]
  exact ⟨by simpa only [PyData.canLay0] using h1, by simp only [PyData.depth]; omega⟩
theorem intD_lay : ∀ ns : List Int, PyData.canLayAll0 (ns.map PyData.int) = true
  | [] => by simp [PyData.canLayAll0]
  | q :: r => by simp [PyData.canLayAll0, PyData.canLay0, intD_lay r]
theorem intD_depth : ∀ ns : List Int, PyData.depthAll (ns.map PyData.int) ≤ 1
  | [] => by simp [PyData.depthAll]
  | q :: r => by
    have h := intD_depth r
    simp only [List.map_cons, PyData.depthAll, PyData.depth]
    omega
theorem shape_ints (ns : List Int) : SeqAt.shaped (.list (ns.map PyData.int)) = true := by
  have h1 := intD_lay ns
  have h2 := intD_depth ns
  unfold SeqAt.shaped
  rw [Bool.and_eq_true, decide_eq_true_eq]
  exact ⟨by simpa only [PyData.canLay0] using h1, by simp only [PyData.depth]; omega⟩
theorem same_shaped {d : PyData} (h : SeqAt.shaped d = true) : PyData.eqv d d = true := SeqAt.eqv_refl d (SeqAt.canLay_of_shaped h)
section
variable {K : PySem.W.Frag} {H : Hp}
theorem dp_ints : ∀ ns : List Int, DpAll K H (ns.map V.int) (ns.map PyData.int)
  | [] => .nil
  | n :: r => .cons (.int n) (dp_ints r)
theorem dp_intList {a : Addr} {ns : List Int} (h : SqL K H a (ns.map V.int)) : Dp K H (.ref a) (.list (ns.map PyData.int)) := .lst h (dp_ints ns)
theorem dp_pairs : ∀ {ts : List Addr} {qs : List (Int × Int)}, Paired (fun t (q : Int × Int) => H t = some (.tup [.int q.1, .int q.2])) ts qs → DpAll K H (ts.map V.ref) (qs.map pairD)
  | _, _, .nil => .nil
  | _, _, .cons e r => .cons (.tup (.of e) (.cons (.int _) (.cons (.int _) .nil))) (dp_pairs r)
theorem Rng.dp {p : Addr} {qs : List (Int × Int)} (h : Rng H p qs) : Dp K H (.ref p) (.list (qs.map pairD)) := by
  obtain ⟨ts, e, r⟩ := h
  exact .lst (.of e) (dp_pairs r)
theorem Rng.same {H' : Hp} {p : Addr} {qs : List (Int × Int)} (h : Rng H p qs) (s : Same H H') : Rng H' p qs := by
  obtain ⟨ts, e, r⟩ := h
  exact ⟨ts, s _ _ e, L2.Paired.mapP r fun t q z => s _ _ z⟩
end
theorem paired_snoc {α β : Type} {F : α → β → Prop} : ∀ {l : List α} {m : List β} {x : α} {y : β}, Paired F l m → F x y → Paired F (l ++ [x]) (m ++ [y])
  | _, _, _, _, .nil, h => .cons h .nil
  | _, _, _, _, .cons e r, h => .cons e (paired_snoc r h)
theorem paired_split {α β : Type} {F : α → β → Prop} : ∀ {l : List α} {m : List β} {y : β}, Paired F l (m ++ [y]) → ∃ l' x, l = l' ++ [x] ∧ Paired F l' m ∧ F x y
  | _, [], _, .cons e .nil => ⟨[], _, rfl, .nil, e⟩
  | _, _ :: _, _, .cons e r => by
    obtain ⟨l', x, rfl, r', h⟩ := paired_split r
    exact ⟨_ :: l', x, rfl, .cons e r', h⟩
theorem set_last {α : Type} : ∀ (l : List α) (x y : α), (l ++ [x]).set l.length y = l ++ [y]
  | [], _, _ => rfl
  | a :: l, x, y => congrArg (a :: ·) (set_last l x y)
theorem ix_last {n : Nat} : ixN (n + 1) (-1) = some n := by
  unfold ixN
  rw [if_neg (by decide), if_pos (by omega)]
  exact congrArg some (by omega)

/-! ### one step: if found != [] and found[-1][1] == n - 1: .. else: .. -/
def tLast (K : PySem.W.Frag) (i : Int) : TE := tOp (rIxT K) (tOp (rIxL K) (tVar 1) (tUn (rU fun i => .int (-i)) (tC (.int 1)))) (tC (.int i))
def tStep (K : PySem.W.Frag) : TS :=
  tIfS (tAnd (tTest (tOp (rNeD K) (tVar 1) (tLst tNil))) (tTest (tOp rEq (tLast K 1) (tOp (rI0 fun i j => .int (i - j)) (tVar 2) (tC (.int 1))))))
    (tAsg (tTup (tCons (tLast K 0) (tCons (tVar 2) tNil))) (gSub (tVar 1) (tUn (rU fun i => .int (-i)) (tC (.int 1))) rSetL))
    (tDrop (tBM K "list" rAppend (tVar 1) (tCons (tTup (tCons (tVar 2) (tCons (tVar 2) tNil))) tNil)))
theorem last_run {K : PySem.W.Frag} {H : Hp} {p t : Addr} {ts : List Addr} {a b i v : Int} {x0 : Option V} {n : V} {Q : VK} (hp : SqL K H p ((ts ++ [t]).map V.ref)) (ht : SqT K H t [.int a, .int b])
    (hi : atI [V.int a, V.int b] i = some (.int v)) (q : Q (.int v) H) : tLast K i [x0, some (.ref p), some n] H Q := by
  have e : atI ((ts ++ [t]).map V.ref) (-1) = some (.ref t) := by
    rw [List.map_append]
    exact atI_last _ _
  exact ⟨_, rfl, 1, rfl, p, _, -1, .ref t, rfl, rfl, hp, e, t, _, i, _, rfl, rfl, ht, hi, q⟩
theorem step_run {K : PySem.W.Frag} {D : Ends} {H : Hp} {p : Addr} {qs : List (Int × Int)} {n : Int} {x0 : Option V} (R : Rng H p qs) (hl : qs.length ≤ 900)
    (q : ∀ H', Keep p H H' → Rng H' p (stepR qs n) → D.nx [x0, some (.ref p), some (.int n)] H') : tStep K D [x0, some (.ref p), some (.int n)] H := by
  obtain ⟨ts, hp, pr⟩ := R
  have len : ts.length = qs.length := pr.length
  refine ⟨_, rfl, Nat.zero_le _, fun e ne => ?_⟩
  have s1 : Same H (upd H e (.lst [])) := same_new ne
  have hp1 : (upd H e (.lst [])) p = some (.lst (ts.map V.ref)) := s1 _ _ hp
  have pr1 : Paired (fun t (q : Int × Int) => (upd H e (.lst [])) t = some (.tup [.int q.1, .int q.2])) ts qs := L2.Paired.mapP pr fun t q z => s1 _ _ z
  have R1 : Rng (upd H e (.lst [])) p qs := ⟨ts, hp1, pr1⟩
  generalize hH1 : upd H e (.lst []) = H1 at s1 hp1 pr1 R1
  have he : SqL K H1 e [] := .of (by rw [← hH1]; exact upd_same)
  refine ⟨.list (qs.map pairD), .list [], R1.dp, .lst he .nil, shape_pairs qs, shape_pairs [], _, rfl, ?_⟩
  -- the way of a new pair
  have new : stepR qs n = qs ++ [(n, n)] → tDrop (tBM K "list" rAppend (tVar 1) (tCons (tTup (tCons (tVar 2) (tCons (tVar 2) tNil))) tNil)) D [x0, some (.ref p), some (.int n)] H1 := fun es => by
    refine ⟨_, rfl, .inl ⟨rfl, _, .of hp1⟩, _, rfl, _, rfl, by show 2 ≤ sizeLine; decide, fun t nt => ?_⟩
    have s2 : Same H1 (upd H1 t (.tup [.int n, .int n])) := same_new nt
    have npt : t ≠ p := fun z => by
      rw [z, hp1] at nt
      cases nt
    refine ⟨p, _, .ref t, rfl, rfl, s2 _ _ hp1, by rw [List.length_map, len]; exact small1000 (by omega), ?_⟩
    refine q _ (((Keep.of s1).trans (Keep.of s2)).trans Keep.put) ?_
    rw [es]
    refine ⟨ts ++ [t], by rw [upd_same, List.map_append]; rfl, paired_snoc (L2.Paired.mapP pr1 fun u z hz => ?_) ?_⟩
    · rw [upd_ne (ne_of hz hp1 (by intro z; cases z))]
      exact s2 _ _ hz
    · rw [upd_ne npt]
      exact upd_same
  rcases List.eq_nil_or_concat qs with rfl | ⟨gs, ⟨a, b⟩, rfl⟩
  · have e0 : (!PyData.eqv (.list (([] : List (Int × Int)).map pairD)) (.list [])) = false := by
      have z : PyData.eqv (.list (([] : List (Int × Int)).map pairD)) (.list []) = true := same_shaped (shape_pairs [])
      rw [z]
      rfl
    rw [e0]
    exact iteF (iteF (new (stepR_nil n)))
  · rw [List.concat_eq_append] at *
    have e1 : (!PyData.eqv (.list ((gs ++ [(a, b)]).map pairD)) (.list [])) = true := by
      have z : PyData.eqv (.list ((gs ++ [(a, b)]).map pairD)) (.list []) = false := by
        rw [PyData.eqv]
        exact SeqAt.eqvAll_other_length (by simp)
      rw [z]
      rfl
    rw [e1]
    obtain ⟨us, t, rfl, pu, ht⟩ := paired_split pr1
    refine iteT (last_run (.of hp1) (.of ht) (atI_nat (j := 1) rfl) ⟨_, rfl, n, 1, rfl, rfl, rfl, _, rfl, ?_⟩)
    by_cases hb : b = n - 1
    · subst hb
      rw [decide_eq_true rfl]
      refine iteT (last_run (.of hp1) (.of ht) (atI_nat (j := 0) rfl) ⟨_, rfl, by show 2 ≤ sizeLine; decide, fun u nu => ?_⟩)
      have s2 : Same H1 (upd H1 u (.tup [.int a, .int n])) := same_new nu
      have nup : u ≠ p := fun z => by
        rw [z, hp1] at nu
        cases nu
      refine ⟨_, rfl, 1, rfl, p, _, -1, us.length, rfl, rfl, s2 _ _ hp1, by rw [List.length_map, List.length_append]; exact ix_last, ?_⟩
      refine q _ (((Keep.of s1).trans (Keep.of s2)).trans Keep.put) ?_
      rw [stepR_join]
      refine ⟨us ++ [u], ?_, paired_snoc (L2.Paired.mapP pu fun v z hz => ?_) ?_⟩
      · have em := set_last (us.map V.ref) (.ref t) (.ref u)
        rw [List.length_map] at em
        rw [upd_same, List.map_append, List.map_append]
        exact congrArg (fun l => some (HO.lst l)) em
      · rw [upd_ne (ne_of hz hp1 (by intro z; cases z))]
        exact s2 _ _ hz
      · rw [upd_ne nup]
        exact upd_same
    · have hd : decide (V.int b = V.int (n - 1)) = false := decide_eq_false fun z => hb (V.int.inj z)
      rw [hd]
      exact iteF (new (stepR_new gs a b n hb))

section
variable {P : Program} {w : World} {K : PySem.W.Frag} {mg : Str → Option Value} {base : Heap}
/-! ### ranges_of -/
theorem scRangesOf : FnScope ["some", "found", "byte"] ["some"] (defScope sRangesOf) :=
  ⟨rfl, rfl, rfl, by decide +kernel, rfl, by decide +kernel, by decide +kernel⟩
def spRangesOf : Sp := fun vs H Q _ => ∃ S : Nat, vs = [.int S] ∧
  ∀ H' p, Same H H' → H p = none → Rng H' p (rangesL (sel (fun b => S.testBit b) 256)) → Q (.ref p) H'
theorem ok_rangesOf {f fH : Addr} {fd fdH : FuncData} (F : Fun K "ranges_of" "ranges_of" sRangesOf f fd) (FH : Fun K "has" "has" sHas fH fdH) (bH : Binds K fdH ["some", "byte"] [])
    (gH : mg "has" = some (.ref fH)) (gR : mg "range" = none) : FnOk P w K mg base CX0 2 f fd ["some"] spRangesOf := by
  have GH : FnOk P w K mg base CX0 1 fH fdH ["some", "byte"] spHas := ok_has FH
  refine F.ok scRangesOf (fun vs H Q E h => ?_) (fun cdv A outer s H vs Q E hr h => ?_)
  · obtain ⟨S, rfl, _⟩ := h
    rfl
  · obtain ⟨S, rfl, q⟩ := h
    refine ⟨_, pss_cons (ps_set (i := 1) scRangesOf.nd rfl (.inl rfl) (pe_lst pa_nil))
      (pss_cons (ps_for PassesOwn.never rfl (pi_range1 rfl gR (pa_cons pe_int pa_nil)) (pg_name (i := 2) scRangesOf.nd rfl (.inl rfl))
        (pss_one (ps_if (pt_val (pe_call GH hr rfl gH FH.kp bH .nil pass0 (pa_cons (pv 0) (pa_cons (pv 2) pa_nil))))
          (pss_one (ps_if (PW.pt (pw_and (pt_cmpR (op_neD hr.units) (pv 1) (pe_lst pa_nil) (nomark _))
              (pw_and1 (pt_cmpR op_eq (pe_ix ix_tup (pe_ix ix_list (pv 1) (pe_un un_neg pe_int) fun _ _ => rfl) pe_int fun _ _ => rfl) (pe_op op_sub (pv 2) pe_int) (nomark _)))))
            (pss_one (ps_asg (pe_tup (pa_cons (pe_ix ix_tup (pe_ix ix_list (pv 1) (pe_un un_neg pe_int) fun _ _ => rfl) pe_int fun _ _ => rfl) (pa_cons (pv 2) pa_nil)))
              (pg_sub (pv 1) (pe_un un_neg pe_int) set_list)))
            (pss_one (ps_expr (pe_bm PySem.F.plainAttrs_list PySem.F.slot_list_append PySem.F.type_list_append mt_append (pv 1) (pa_cons (pe_tup (pa_cons (pv 2) (pa_cons (pv 2) pa_nil))) pa_nil))))))
          pss_nil)))
      (pss_one (ps_ret (pv 1)))), ?_⟩
    refine ⟨Nat.zero_le _, fun p np => ⟨256, rfl, by decide, by decide, ?_⟩⟩
    refine for_range (lo := 0) (n := 256) (fun i σ H' => ∃ y, σ = [some (.int S), some (.ref p), y] ∧ Same H H' ∧ Rng H' p (rangesL (sel (fun b => S.testBit b) i)))
      ⟨none, rfl, same_new np, [], upd_same, .nil⟩ ?_ ?_
    · rintro i σ H' hi ⟨y, rfl, s1, R⟩
      refine ⟨_, rfl, _, rfl, S, i, ?_, _, rfl, ?_⟩
      · show [V.int (S : Int), V.int (0 + (i : Int))] = _
        rw [Int.zero_add]
      · refine ite2 (fun hb => ?_) (fun hb => ?_)
        · have ll := rangesL_len (sel (fun b => S.testBit b) i)
          have l2 := sel_len (fun b => S.testBit b) i
          refine step_run (n := 0 + (i : Int)) R (by omega) fun H2 k R2 => ⟨_, rfl, (Keep.trans (Keep.of s1) k).same np, ?_⟩
          rw [sel_yes (p := fun b => S.testBit b) hb, rangesL_snoc]
          rw [Int.zero_add] at R2
          exact R2
        · have hb : S.testBit i = false := by simpa using hb
          refine ⟨_, rfl, s1, ?_⟩
          rw [sel_no (p := fun b => S.testBit b) hb]
          exact R
    · rintro σ H' ⟨y, rfl, s1, R⟩
      exact ⟨_, rfl, q H' p s1 np R⟩

/-! ### _law_ranges -/
theorem scRanges : FnScope ["_law_numbers", "_law_found", "_law_number_here"] ["_law_numbers"] (defScope sRanges) :=
  ⟨rfl, rfl, rfl, by decide +kernel, rfl, by decide +kernel, by decide +kernel⟩
def spRanges (K : PySem.W.Frag) : Sp := fun vs H Q _ => ∃ (a : Addr) (ns : List Int), vs = [.ref a] ∧ SqL K H a (ns.map V.int) ∧ ns.length ≤ 900 ∧
  ∀ H' p, Same H H' → H p = none → Rng H' p (rangesL ns) → Q (.ref p) H'
theorem ok_ranges {f : Addr} {fd : FuncData} (F : Fun K "_law_ranges" "_law_ranges" sRanges f fd) : FnOk P w K mg base CX0 1 f fd ["_law_numbers"] (spRanges K) := by
  refine F.ok scRanges (fun vs H Q E h => ?_) (fun cdv A outer s H vs Q E hr h => ?_)
  · obtain ⟨a, ns, rfl, _⟩ := h
    rfl
  · obtain ⟨a, ns, rfl, hS, hl, q⟩ := h
    refine ⟨_, pss_cons (ps_set (i := 1) scRanges.nd rfl (.inl rfl) (pe_lst pa_nil))
      (pss_cons (ps_for PassesOwn.never rfl (pi_list (pv 0)) (pg_name (i := 2) scRanges.nd rfl (.inl rfl))
          (pss_one (ps_if (PW.pt (pw_and (pt_cmpR (op_neD hr.units) (pv 1) (pe_lst pa_nil) (nomark _))
              (pw_and1 (pt_cmpR op_eq (pe_ix ix_tup (pe_ix ix_list (pv 1) (pe_un un_neg pe_int) fun _ _ => rfl) pe_int fun _ _ => rfl) (pe_op op_sub (pv 2) pe_int) (nomark _)))))
            (pss_one (ps_asg (pe_tup (pa_cons (pe_ix ix_tup (pe_ix ix_list (pv 1) (pe_un un_neg pe_int) fun _ _ => rfl) pe_int fun _ _ => rfl) (pa_cons (pv 2) pa_nil)))
              (pg_sub (pv 1) (pe_un un_neg pe_int) set_list)))
            (pss_one (ps_expr (pe_bm PySem.F.plainAttrs_list PySem.F.slot_list_append PySem.F.type_list_append mt_append (pv 1) (pa_cons (pe_tup (pa_cons (pv 2) (pa_cons (pv 2) pa_nil))) pa_nil)))))))
      (pss_one (ps_ret (pv 1)))), ?_⟩
    refine ⟨Nat.zero_le _, fun p np => ⟨.ref a, rfl, a, rfl, ⟨_, (same_new np).seq hS⟩, ?_⟩⟩
    refine for_list (K := K) (a := a) (xs := ns.map V.int) (fun i σ H' => ∃ y, σ = [some (.ref a), some (.ref p), y] ∧ Same H H' ∧ Rng H' p (rangesL (ns.take i)))
      ⟨none, rfl, same_new np, [], upd_same, .nil⟩ (fun i σ H' _ ⟨_, _, s1, _⟩ => s1.seq hS) ?_ ?_
    · rintro i x σ H' hx ⟨y, rfl, s1, R⟩
      rw [List.getElem?_map] at hx
      obtain ⟨n, hn, rfl⟩ := Option.map_eq_some_iff.mp hx
      have ll := rangesL_len (ns.take i)
      rw [List.length_take] at ll
      refine step_run (n := n) R (by omega) fun H2 k R2 => ⟨_, rfl, (Keep.trans (Keep.of s1) k).same np, ?_⟩
      rw [List.take_add_one, hn, Option.toList_some, rangesL_snoc]
      exact R2
    · rintro σ H' ⟨y, rfl, s1, R⟩
      rw [List.length_map, List.take_length] at R
      exact ⟨_, rfl, q H' p s1 np R⟩
end
end K01
namespace K01
open PySem PySem.Spec PyProof.Rows L2

/-! ### what is drawn is left open: only its bounds are promised -/
abbrev sCellAt : Stmt := topS 8
abbrev sDraw : Stmt := topS 9
abbrev sNumber : Stmt := topS 10
abbrev sNext : Stmt := topS 11
abbrev sPick : Stmt := topS 12

section
variable {P : Program} {w : World} {K : PySem.W.Frag} {mg : Str → Option Value} {base : Heap}

/-! ### _law_cell_at -/
theorem scCellAt : FnScope ["_law_script", "_law_k"] ["_law_script", "_law_k"] (defScope sCellAt) :=
  ⟨rfl, rfl, rfl, by decide +kernel, rfl, by decide +kernel, by decide +kernel⟩
def spCellAt (K : PySem.W.Frag) : Sp := fun vs H Q _ => ∃ (l : Addr) (ns : List Int) (k : Int), vs = [.ref l, .int k] ∧ SqL K H l (ns.map V.int) ∧ 0 ≤ k ∧ ∀ z : Int, Q (.int z) H
theorem ok_cellAt {f : Addr} {fd : FuncData} (F : Fun K "_law_cell_at" "_law_cell_at" sCellAt f fd) (gL : mg "len" = none) :
    FnOk P w K mg base CX0 1 f fd ["_law_script", "_law_k"] (spCellAt K) := by
  refine F.ok scCellAt (fun vs H Q E h => ?_) (fun cdv A outer s H vs Q E hr h => ?_)
  · obtain ⟨l, ns, k, rfl, _⟩ := h
    rfl
  · obtain ⟨l, ns, k, rfl, hS, h0, q⟩ := h
    refine ⟨_, pss_cons (ps_if (pt_cmpR op_lt (pv 1) (pe_callB call_len_seq (by rfl) gL PySem.boot_len (pa_cons (pv 0) pa_nil)) (nomark _))
        (pss_one (ps_ret (pe_ix ix_list (pv 0) (pv 1) fun _ _ => rfl))) pss_nil)
      (pss_one (ps_ret pe_int)), ?_⟩
    refine ⟨_, rfl, _, rfl, l, _, rfl, .inl hS, k, _, rfl, rfl, _, rfl, ite2 (fun e => ?_) (fun e => q 0)⟩
    have e := of_decide_eq_true e
    rw [List.length_map] at e
    have hk : k.toNat < ns.length := by omega
    refine ⟨_, rfl, _, rfl, l, _, k, .int ns[k.toNat], rfl, rfl, hS, at_of (j := k.toNat) (by omega) ?_, q _⟩
    rw [List.getElem?_map, List.getElem?_eq_getElem hk]
    rfl

/-! ### _law_draw -/
theorem scDraw : FnScope ["_law_cell", "_law_k", "_law_bound", "_law_primes"] ["_law_cell", "_law_k", "_law_bound"] (defScope sDraw) :=
  ⟨rfl, rfl, rfl, by decide +kernel, rfl, by decide +kernel, by decide +kernel⟩
def spDraw : Sp := fun vs H Q _ => ∃ c k b : Int, vs = [.int c, .int k, .int b] ∧ 0 < b ∧ ∀ (z : Int) H', 0 ≤ z → z < b → Same H H' → Q (.int z) H'
def primes : List Int := [1000003, 1000033, 1000037, 1000039, 1000081, 1000099, 1000117, 1000121,
  1000133, 1000151, 1000159, 1000171, 1000183, 1000187, 1000193, 1000199]
theorem primes_at {j : Nat} (h : j < 16) : ∃ p, primes[j]? = some p ∧ 0 < p := by
  have a : ∀ p ∈ primes, 0 < p := by decide
  have e := List.getElem?_eq_getElem (l := primes) (i := j) h
  exact ⟨_, e, a _ (List.mem_of_getElem? e)⟩
theorem ok_draw {f : Addr} {fd : FuncData} (F : Fun K "_law_draw" "_law_draw" sDraw f fd) (gI : mg "int" = none) :
    FnOk P w K mg base CX0 1 f fd ["_law_cell", "_law_k", "_law_bound"] spDraw := by
  refine F.ok scDraw (fun vs H Q E h => ?_) (fun cdv A outer s H vs Q E hr h => ?_)
  · obtain ⟨c, k, b, rfl, _⟩ := h
    rfl
  · obtain ⟨c, k, b, rfl, hb, q⟩ := h
    refine ⟨_, pss_cons (ps_set (i := 3) scDraw.nd rfl (.inl rfl) (pe_tup (pa_cons pe_int (pa_cons pe_int (pa_cons pe_int (pa_cons pe_int (pa_cons pe_int (pa_cons pe_int (pa_cons pe_int (pa_cons pe_int
        (pa_cons pe_int (pa_cons pe_int (pa_cons pe_int (pa_cons pe_int (pa_cons pe_int (pa_cons pe_int (pa_cons pe_int (pa_cons pe_int pa_nil))))))))))))))))))
      (pss_one (ps_ret (pe_op op_mod (pe_op op_mod
        (pe_callTy call_int1 (by rfl) gI (by decide +kernel) (pa_cons (pe_op op_add (pe_op op_mul (pv 0) pe_int) (pe_op op_mul (pv 1) pe_int)) pa_nil))
        (pe_ix ix_tup (pv 3) (pe_op op_mod (pe_callTy call_int1 (by rfl) gI (by decide +kernel) (pa_cons (pv 1) pa_nil)) pe_int) fun _ _ => rfl)) (pv 2)))), ?_⟩
    refine ⟨by show 16 ≤ sizeLine; decide, fun t nt => ?_⟩
    refine ⟨_, rfl, c, 48271, rfl, rfl, .inr ⟨by decide, by decide⟩, _, rfl, k, 69621, rfl, rfl, .inr ⟨by decide, by decide⟩, _, _, rfl, rfl, .inl ⟨_, rfl, ?_⟩⟩
    obtain ⟨p, hp, p0⟩ := primes_at (j := (k % 16).toNat) (by omega)
    refine ⟨_, rfl, _, rfl, .inl ⟨_, rfl, k, 16, rfl, rfl, by show (0 : Int) < 16; decide, ?_⟩⟩
    refine ⟨t, primes.map V.int, k % 16, .int p, rfl, rfl, .of upd_same, at_of (j := (k % 16).toNat) (by omega) (by rw [List.getElem?_map, hp]; rfl), ?_⟩
    refine ⟨_, p, rfl, rfl, p0, _, rfl, _, b, rfl, rfl, hb, ?_⟩
    exact q _ _ (Int.emod_nonneg _ (by omega)) (Int.emod_lt_of_pos _ hb) (same_new nt)

/-! ### _law_number -/
theorem scNumber : FnScope ["_law_cell", "_law_k", "_law_bound", "_law_power", "_law_lap", "_law_remains", "_law_small"] ["_law_cell", "_law_k", "_law_bound"] (defScope sNumber) :=
  ⟨rfl, rfl, rfl, by decide +kernel, rfl, by decide +kernel, by decide +kernel⟩
def spNumber : Sp := fun vs H Q _ => ∃ c k b : Int, vs = [.int c, .int k, .int b] ∧ 0 ≤ k ∧ k ≤ 100 ∧ 0 < b ∧ ∀ (z : Int) H', 0 ≤ z → z < b → Same H H' → Q (.int z) H'
theorem pow_ok {m : Nat} (h : m < 24) : CDivW 0 ((1009 : Int) ^ m) := by
  refine wide_div (b := 240) (Int.pow_pos (by decide)) ?_ (by decide) (by decide)
  rw [Int.natAbs_pow]
  exact Nat.lt_of_le_of_lt (Nat.pow_le_pow_right (by decide) (show m ≤ 23 by omega)) (by decide)
theorem ok_number {f fD : Addr} {fd fdD : FuncData} (F : Fun K "_law_number" "_law_number" sNumber f fd) (FD : Fun K "_law_draw" "_law_draw" sDraw fD fdD) (bD : Binds K fdD ["_law_cell", "_law_k", "_law_bound"] [])
    (gD : mg "_law_draw" = some (.ref fD)) (gI : mg "int" = none) (gR : mg "range" = none) :
    FnOk P w K mg base CX0 2 f fd ["_law_cell", "_law_k", "_law_bound"] spNumber := by
  have GD : FnOk P w K mg base CX0 1 fD fdD ["_law_cell", "_law_k", "_law_bound"] spDraw := ok_draw FD gI
  refine F.ok scNumber (fun vs H Q E h => ?_) (fun cdv A outer s H vs Q E hr h => ?_)
  · obtain ⟨c, k, b, rfl, _⟩ := h
    rfl
  · obtain ⟨c, k, b, rfl, k0, k1, hb, q⟩ := h
    refine ⟨_, pss_cons (ps_set (i := 3) scNumber.nd rfl (.inl rfl) pe_int)
      (pss_cons (ps_for PassesOwn.never rfl (pi_range1 rfl gR (pa_cons (pe_op op_mod (pe_callTy call_int1 (by rfl) gI (by decide +kernel) (pa_cons (pv 1) pa_nil)) pe_int) pa_nil)) (pg_name (i := 4) scNumber.nd rfl (.inl rfl))
        (pss_one (ps_set (i := 3) scNumber.nd rfl (.inl rfl) (pe_op op_mul (pv 3) pe_int))))
      (pss_cons (ps_set (i := 5) scNumber.nd rfl (.inl rfl) (pe_op op_fdivW (pe_op op_sub (pv 0) (pe_op op_pow pe_int pe_int)) (pv 3)))
      (pss_cons (ps_if (pt_cmpR op_gt (pv 5) pe_int (nomark _))
        (pss_one (ps_ret (pe_op op_mod (pe_op op_mod (pe_callTy call_int1 (by rfl) gI (by decide +kernel) (pa_cons (pv 5) pa_nil)) pe_int) (pv 2)))) pss_nil)
      (pss_cons (ps_set (i := 6) scNumber.nd rfl (.inl rfl) (pe_op op_mod (pe_callTy call_int1 (by rfl) gI (by decide +kernel) (pa_cons (pv 0) pa_nil)) pe_int))
      (pss_one (ps_ret (pe_op op_mod
        (pe_call GD hr rfl gD FD.kp bD .nil pass0 (pa_cons (pe_op op_mul (pe_op op_add (pv 6) (pe_op op_mul pe_int (pv 1))) (pe_op op_add (pe_op op_add (pv 6) (pe_op op_mul pe_int (pv 1))) pe_int))
          (pa_cons (pe_op op_add (pe_op op_mod (pe_callTy call_int1 (by rfl) gI (by decide +kernel) (pa_cons (pv 1) pa_nil)) pe_int) pe_int) (pa_cons pe_int pa_nil))))
        (pv 2)))))))), ?_⟩
    refine ⟨_, rfl, .inl ⟨_, rfl, k, 24, rfl, rfl, by show (0 : Int) < 24; decide, k % 24, rfl, by omega, by omega, ?_⟩⟩
    refine for_range (lo := 0) (n := (k % 24).toNat) (fun i σ H' => ∃ y, σ = [some (.int c), some (.int k), some (.int b), some (.int (1009 ^ i)), y, none, none] ∧ H' = H) ⟨none, rfl, rfl⟩ ?_ ?_
    · rintro i σ H' hi ⟨y, rfl, rfl⟩
      refine ⟨_, rfl, _, 1009, rfl, rfl, .inr ⟨by decide, by decide⟩, some (.int (0 + (i : Int))), ?_, rfl⟩
      rw [Int.pow_succ]
      rfl
    · rintro σ H' ⟨y, rfl, rfl⟩
      refine ⟨_, rfl, 10, 18, rfl, rfl, ⟨by decide, by decide, by decide⟩, c, _, rfl, rfl, _, rfl, _, _, rfl, rfl, pow_ok (by omega), ?_⟩
      refine ⟨_, rfl, _, 0, rfl, rfl, _, rfl, ite2 (fun _ => ?_) (fun _ => ?_)⟩
      · refine ⟨_, rfl, .inl ⟨_, rfl, _, 1009, rfl, rfl, by show (0 : Int) < 1009; decide, _, rfl, _, b, rfl, rfl, hb, ?_⟩⟩
        exact q _ _ (Int.emod_nonneg _ (by omega)) (Int.emod_lt_of_pos _ hb) (Same.refl _)
      · refine ⟨_, rfl, .inl ⟨c, rfl, c, 1000003, rfl, rfl, by show (0 : Int) < 1000003; decide, ?_⟩⟩
        have m0 : 0 ≤ c % 1000003 := Int.emod_nonneg _ (by decide)
        have m1 : c % 1000003 < 1000003 := Int.emod_lt_of_pos _ (by decide)
        refine ⟨_, rfl, _, rfl, 977, k, rfl, rfl, .inl ⟨by decide, by decide⟩, _, _, rfl, rfl, _, rfl, _, rfl, 31, k, rfl, rfl, .inl ⟨by decide, by decide⟩, _, _, rfl, rfl, _, 5, rfl, rfl,
          c % 1000003 + 977 * k, _, rfl, rfl, .inl ⟨by omega, by omega⟩, ?_⟩
        refine ⟨_, rfl, .inl ⟨k, rfl, k, 9, rfl, rfl, by show (0 : Int) < 9; decide, _, 1, rfl, rfl, ?_⟩⟩
        refine ⟨_, _, 999983, rfl, by decide, fun z H2 _ _ s2 => ⟨_, rfl, z, b, rfl, rfl, hb, ?_⟩⟩
        exact q _ _ (Int.emod_nonneg _ (by omega)) (Int.emod_lt_of_pos _ hb) s2

/-! ### _law_next: here is [cells, 0, count] -/
/-- the drawing list at a: its script stands at l -/
def Here (K : PySem.W.Frag) (H : Hp) (a l : Addr) (ns : List Int) : Prop :=
  (∃ c : Int, 0 ≤ c ∧ H a = some (.lst [.ref l, .int 0, .int c])) ∧ SqL K H l (ns.map V.int)
theorem no_ref {ns : List Int} {l : Addr} {vs : List V} : ns.map V.int ≠ .ref l :: vs := fun e => by
  cases ns with
  | nil => cases e
  | cons n r => cases (List.cons.inj e).1
theorem scNext : FnScope ["_law_draw_here", "_law_bound", "_law_at", "_law_cell"] ["_law_draw_here", "_law_bound"] (defScope sNext) :=
  ⟨rfl, rfl, rfl, by decide +kernel, rfl, by decide +kernel, by decide +kernel⟩
def spNext (K : PySem.W.Frag) : Sp := fun vs H Q _ => ∃ (a l : Addr) (ns : List Int) (b : Int), vs = [.ref a, .int b] ∧ Here K H a l ns ∧ 0 < b ∧
  ∀ (z : Int) H', 0 ≤ z → z < b → Here K H' a l ns → Keep a H H' → Q (.int z) H'
theorem ok_next {f fC fN fD : Addr} {fd fdC fdN fdD : FuncData} (F : Fun K "_law_next" "_law_next" sNext f fd) (FC : Fun K "_law_cell_at" "_law_cell_at" sCellAt fC fdC) (bC : Binds K fdC ["_law_script", "_law_k"] [])
    (gC : mg "_law_cell_at" = some (.ref fC)) (FN : Fun K "_law_number" "_law_number" sNumber fN fdN) (bN : Binds K fdN ["_law_cell", "_law_k", "_law_bound"] []) (gN : mg "_law_number" = some (.ref fN))
    (FD : Fun K "_law_draw" "_law_draw" sDraw fD fdD) (bD : Binds K fdD ["_law_cell", "_law_k", "_law_bound"] []) (gD : mg "_law_draw" = some (.ref fD))
    (gI : mg "int" = none) (gR : mg "range" = none) (gL : mg "len" = none) :
    FnOk P w K mg base CX0 3 f fd ["_law_draw_here", "_law_bound"] (spNext K) := by
  have GC : FnOk P w K mg base CX0 1 fC fdC ["_law_script", "_law_k"] (spCellAt K) := ok_cellAt FC gL
  have GN : FnOk P w K mg base CX0 2 fN fdN ["_law_cell", "_law_k", "_law_bound"] spNumber := ok_number FN FD bD gD gI gR
  refine F.ok scNext (fun vs H Q E h => ?_) (fun cdv A outer s H vs Q E hr h => ?_)
  · obtain ⟨a, l, ns, b, rfl, _⟩ := h
    rfl
  · obtain ⟨a, l, ns, b, rfl, ⟨⟨c, c0, ha⟩, hS⟩, hb, q⟩ := h
    have hr1 : Room 1 _ := hr.mono (by decide)
    refine ⟨_, pss_cons (ps_asg (pe_op op_add (pe_ix ix_list (pv 0) pe_int fun _ _ => rfl) pe_int) (pg_sub (pv 0) pe_int set_list))
      (pss_cons (ps_set (i := 2) scNext.nd rfl (.inl rfl) (pe_op op_fdiv (pe_ix ix_list (pv 0) pe_int fun _ _ => rfl) pe_int))
      (pss_cons (ps_set (i := 3) scNext.nd rfl (.inl rfl) (pe_op op_add
        (pe_call GC hr1 rfl gC FC.kp bC .nil pass0 (pa_cons (pe_ix ix_list (pv 0) pe_int fun _ _ => rfl) (pa_cons (pe_op op_add (pe_ix ix_list (pv 0) pe_int fun _ _ => rfl) (pv 2)) pa_nil)))
        (pe_op op_mul pe_int (pv 2))))
      (pss_one (ps_ret (pe_call GN hr rfl gN FN.kp bN .nil pass0 (pa_cons (pv 3)
        (pa_cons (pe_op op_add (pe_op op_mod (pe_callTy call_int1 (by rfl) gI (by decide +kernel) (pa_cons (pe_ix ix_list (pv 0) pe_int fun _ _ => rfl) pa_nil)) pe_int) pe_int)
        (pa_cons (pv 1) pa_nil)))))))), ?_⟩
    -- here[2] = here[2] + 1
    refine ⟨_, rfl, a, _, 2, .int c, rfl, rfl, .of ha, rfl, c, 1, rfl, rfl, _, rfl, a, _, 2, 2, rfl, rfl, ha, rfl, ?_⟩
    show _
    generalize hH1 : upd H a (.lst ([V.ref l, .int 0, .int c].set 2 (.int (c + 1)))) = H1
    have ha1 : H1 a = some (.lst [.ref l, .int 0, .int (c + 1)]) := by rw [← hH1]; exact upd_same
    have k1 : Keep a H H1 := by rw [← hH1]; exact Keep.put
    have hS1 : SqL K H1 l (ns.map V.int) := k1.sq ha hS no_ref
    -- at = here[2] // 12
    refine ⟨_, rfl, a, _, 2, .int (c + 1), rfl, rfl, .of ha1, rfl, c + 1, 12, rfl, rfl, ⟨by decide, by decide⟩, ?_⟩
    -- cell
    refine ⟨_, rfl, a, _, 0, .ref l, rfl, rfl, .of ha1, rfl, _, rfl, a, _, 1, .int 0, rfl, rfl, .of ha1, rfl, _, rfl, 0, (c + 1) / 12, rfl, rfl, l, ns, 0 + (c + 1) / 12, rfl, hS1, by omega, fun z => ?_⟩
    refine ⟨_, rfl, 31, (c + 1) / 12, rfl, rfl, .inl ⟨by decide, by decide⟩, z, _, rfl, rfl, ?_⟩
    -- number
    refine ⟨_, rfl, _, rfl, a, _, 2, .int (c + 1), rfl, rfl, .of ha1, rfl, .inl ⟨c + 1, rfl, c + 1, 12, rfl, rfl, by show (0 : Int) < 12; decide, _, 1, rfl, rfl, ?_⟩⟩
    refine ⟨_, rfl, _, _, b, rfl, by omega, by omega, hb, fun y H2 y0 y1 s2 => ?_⟩
    exact q y H2 y0 y1 ⟨⟨c + 1, by omega, s2 _ _ ha1⟩, s2.seq hS1⟩ (k1.trans (Keep.of s2))

/-! ### _law_pick -/
theorem scPick : FnScope ["_law_draw_here", "_law_things"] ["_law_draw_here", "_law_things"] (defScope sPick) :=
  ⟨rfl, rfl, rfl, by decide +kernel, rfl, by decide +kernel, by decide +kernel⟩
def spPick (K : PySem.W.Frag) : Sp := fun vs H Q _ => ∃ (a l : Addr) (ns : List Int) (t : Addr) (xs : List Int), vs = [.ref a, .ref t] ∧ Here K H a l ns ∧ SqL K H t (xs.map V.int) ∧ 0 < xs.length ∧
  ∀ (z : Int) H', z ∈ xs → Here K H' a l ns → Keep a H H' → Q (.int z) H'
theorem ok_pick {f fN : Addr} {fd fdN : FuncData} (F : Fun K "_law_pick" "_law_pick" sPick f fd)
    (GN : FnOk P w K mg base CX0 3 fN fdN ["_law_draw_here", "_law_bound"] (spNext K)) (kN : PySem.W.keepIn K (.ref fN) = true) (bN : Binds K fdN ["_law_draw_here", "_law_bound"] [])
    (gN : mg "_law_next" = some (.ref fN)) (gL : mg "len" = none) :
    FnOk P w K mg base CX0 4 f fd ["_law_draw_here", "_law_things"] (spPick K) := by
  refine F.ok scPick (fun vs H Q E h => ?_) (fun cdv A outer s H vs Q E hr h => ?_)
  · obtain ⟨a, l, ns, t, xs, rfl, _⟩ := h
    rfl
  · obtain ⟨a, l, ns, t, xs, rfl, hH, ht, h0, q⟩ := h
    refine ⟨_, pss_one (ps_ret (pe_ix ix_list (pv 1) (pe_call GN hr rfl gN kN bN .nil pass0 (pa_cons (pv 0) (pa_cons (pe_callB call_len_seq (by rfl) gL PySem.boot_len (pa_cons (pv 1) pa_nil)) pa_nil))) fun _ _ => rfl)), ?_⟩
    refine ⟨_, rfl, _, rfl, _, rfl, t, _, rfl, .inl ht, a, l, ns, _, rfl, hH, by rw [List.length_map]; omega, fun z H2 z0 z1 h2 k2 => ?_⟩
    rw [List.length_map] at z1
    obtain ⟨⟨c, c0, ha⟩, _⟩ := hH
    have hz : z.toNat < xs.length := by omega
    refine ⟨t, _, z, .int xs[z.toNat], rfl, rfl, k2.sq ha ht no_ref, at_of (j := z.toNat) (by omega) ?_, ?_⟩
    · rw [List.getElem?_map, List.getElem?_eq_getElem hz]
      rfl
    · exact q _ H2 (List.getElem_mem hz) h2 k2
end
end K01
namespace K01
open PySem PySem.Spec PyProof.Rows L2

/-! ### the frame of law: twelve names, the last three are the comprehensions' own -/
abbrev fr (x0 : V) (a : Addr) (x2 x3 x4 x5 x6 x7 x8 : Option V) : L2.St := [some x0, some (.ref a), x2, x3, x4, x5, x6, x7, x8, none, none, none]
theorem samePut {H H' : Hp} {D : Addr} {o : HO} (s : Same H H') (n : H D = none) : Same H (upd H' D o) := fun b x e => by
  rw [upd_ne (ne_of_none e n)]
  exact s _ _ e
theorem Keep.putNew {a : Addr} {H H' : Hp} {D : Addr} {o : HO} (s : Keep a H H') (n : H D = none) : Keep a H (upd H' D o) := fun b x e hb => by
  rw [upd_ne (ne_of_none e n)]
  exact s _ _ e hb
theorem Here.same {K : PySem.W.Frag} {H H' : Hp} {a l : Addr} {ns : List Int} (h : Here K H a l ns) (s : Same H H') : Here K H' a l ns := by
  obtain ⟨⟨c, c0, e⟩, q⟩ := h
  exact ⟨⟨c, c0, s _ _ e⟩, s.seq q⟩

section
variable {K : PySem.W.Frag} {H : Hp} {x0 : V} {a : Addr} {x2 x3 x4 x5 x6 x7 x8 : Option V} {Q : VK}

/-! ### [tuple(pair) for pair in ranges_of(some)] -/
def rTupT (K : PySem.W.Frag) : List V → Hp → VK → Prop := fun xs H Q => ∃ a ys, xs = [.ref a] ∧ SqT K H a ys ∧ Q (.ref a) H
def tPairs (K : PySem.W.Frag) : TE := tLc (iList K (tCall spRangesOf [] E0 (tCons (tVar 7) tNil))) (gName 11) tYes (tCB (rTupT K) (tCons (tVar 11) tNil)) [11]
theorem paired_at {α β : Type} {F : α → β → Prop} : ∀ {l : List α} {m : List β}, Paired F l m → ∀ (i : Nat) x, l[i]? = some x → ∃ y, m[i]? = some y ∧ F x y
  | _, _, .nil, i, x, h => by simp at h
  | _, _, .cons e r, 0, x, h => ⟨_, rfl, by cases h; exact e⟩
  | _, _, .cons e r, i + 1, x, h => paired_at r i x h
theorem pairs_run {S : Nat} (q : ∀ H' D, Same H H' → H D = none → Rng H' D (rangesL (sel (fun b => S.testBit b) 256)) → Q (.ref D) H') :
    tPairs K (fr x0 a x2 x3 x4 x5 x6 (some (.int S)) x8) H Q := by
  refine ⟨_, rfl, S, rfl, fun H1 p s1 np R => ⟨p, rfl, ?_⟩⟩
  obtain ⟨ts, hp, pr⟩ := R
  have len := pr.length
  have l1 := rangesL_len (sel (fun b => S.testBit b) 256)
  have l2 := sel_len (fun b => S.testBit b) 256
  refine ⟨⟨_, .of hp⟩, fun D nD => ?_⟩
  refine lc_list (K := K) (a := p) (xs := ts.map V.ref) (fun i H' => Same H1 H' ∧ H' D = some (.lst ((ts.take i).map V.ref))) ⟨same_new nD, upd_same⟩ (fun i H' _ h => h.1.seq (.of hp)) ?_ ?_
  · rintro i x H' hx ⟨s2, hD⟩
    rw [List.getElem?_map] at hx
    obtain ⟨t, ht, rfl⟩ := Option.map_eq_some_iff.mp hx
    obtain ⟨y, _, hy⟩ := paired_at pr i t ht
    refine ⟨rfl, ⟨_, rfl, t, _, rfl, .of (s2 _ _ hy), _, hD, ?_, samePut s2 nD, ?_⟩⟩
    · rw [List.length_map, List.length_take]
      exact small1000 (by omega)
    · rw [upd_same, List.take_add_one, ht, Option.toList_some, List.map_append]
      rfl
  · rintro H' ⟨s2, hD⟩
    rw [List.length_map, List.take_length] at hD
    exact q H' D (s1.trans s2) (s1.free nD) ⟨ts, hD, L2.Paired.mapP pr fun t z e => s2 _ _ e⟩

/-! ### [byte for byte in range(256) if has(some, byte)] -/
def tHas (K : PySem.W.Frag) : TE := tLc (iRng1 (tCons (tC (.int 256)) tNil)) (gName 10) (tB (tCall spHas [] E0 (tCons (tVar 7) (tCons (tVar 10) tNil)))) (tVar 10) [10]
theorem has_run {S : Nat} (q : ∀ H' D, Same H H' → H' D = some (.lst ((sel (fun b => S.testBit b) 256).map V.int)) → Q (.ref D) H') :
    tHas K (fr x0 a x2 x3 x4 x5 x6 (some (.int S)) x8) H Q := by
  refine ⟨256, rfl, by decide, by decide, fun D nD => ?_⟩
  refine lc_range (lo := 0) (n := 256) (fun i H' => Same H H' ∧ H' D = some (.lst ((sel (fun b => S.testBit b) i).map V.int))) ⟨same_new nD, upd_same⟩ ?_ fun H' h => q H' D h.1 h.2
  rintro i H' hi ⟨s1, hD⟩
  refine ⟨rfl, _, rfl, _, rfl, S, i, ?_, _, rfl, ite2 (fun hb => ?_) (fun hb => ?_)⟩
  · show [V.int (S : Int), V.int (0 + (i : Int))] = _
    rw [Int.zero_add]
  · have l2 := sel_len (fun b => S.testBit b) i
    refine ⟨_, rfl, _, hD, by rw [List.length_map]; exact small1000 (by omega), samePut s1 nD, ?_⟩
    rw [upd_same, sel_yes (p := fun b => S.testBit b) hb, List.map_append, Int.zero_add]
    rfl
  · have hb : S.testBit i = false := by simpa using hb
    exact ⟨s1, by rw [sel_no (p := fun b => S.testBit b) hb]; exact hD⟩

/-! ### [byte for byte in range(256) if byte not in lot] -/
def tLess (K : PySem.W.Frag) : TE := tLc (iRng1 (tCons (tC (.int 256)) tNil)) (gName 10) (tTest (tOp (rIn K true) (tVar 10) (tVar 5))) (tVar 10) [10]
theorem inV_ints (z : Int) : ∀ ns : List Int, inV (.int z) (ns.map V.int) = decide (z ∈ ns)
  | [] => rfl
  | n :: r => by
    have ih := inV_ints z r
    unfold inV at ih ⊢
    rw [List.map_cons, List.any_cons, ih]
    show ((n == z) || decide (z ∈ r)) = decide (z ∈ n :: r)
    by_cases e : z = n
    · subst e
      simp
    · have e2 : (n == z) = false := by simpa using fun q : n = z => e q.symm
      rw [e2, Bool.false_or, decide_eq_decide, List.mem_cons]
      exact ⟨.inr, fun h => h.resolve_left e⟩
theorem less_run {p : Addr} {ns : List Int} (hp : SqL K H p (ns.map V.int)) (q : ∀ H' D, Same H H' → H D = none → H' D = some (.lst ((sel (fun b => !decide ((b : Int) ∈ ns)) 256).map V.int)) → Q (.ref D) H') :
    tLess K (fr x0 a x2 x3 x4 (some (.ref p)) x6 x7 x8) H Q := by
  refine ⟨256, rfl, by decide, by decide, fun D nD => ?_⟩
  refine lc_range (lo := 0) (n := 256) (fun i H' => Same H H' ∧ H' D = some (.lst ((sel (fun b => !decide ((b : Int) ∈ ns)) i).map V.int))) ⟨same_new nD, upd_same⟩ ?_ fun H' h => q H' D h.1 nD h.2
  rintro i H' hi ⟨s1, hD⟩
  refine ⟨rfl, _, rfl, _, rfl, p, _, rfl, .inl (s1.seq hp), rfl, ?_, _, rfl, ?_⟩
  · rw [List.all_map]
    exact List.all_eq_true.mpr fun _ _ => rfl
  show if (!inV (.int (0 + (i : Int))) (ns.map V.int)) = true then _ else _
  rw [Int.zero_add, inV_ints]
  refine ite2 (fun hb => ?_) (fun hb => ?_)
  · have l2 := sel_len (fun b => !decide ((b : Int) ∈ ns)) i
    refine ⟨_, rfl, _, hD, by rw [List.length_map]; exact small1000 (by omega), samePut s1 nD, ?_⟩
    rw [upd_same, sel_yes (p := fun b => !decide ((b : Int) ∈ ns)) hb, List.map_append]
    rfl
  · have hb : (!decide ((i : Int) ∈ ns)) = false := by simpa using hb
    exact ⟨s1, by rw [sel_no (p := fun b => !decide ((b : Int) ∈ ns)) hb]; exact hD⟩

/-! ### [pick(here, [0, 255, next(here, 256), 97 + next(here, 6)]) for by in range(next(here, 9))] -/
def tNx (K : PySem.W.Frag) (b : Int) : TE := tCall (spNext K) [] E0 (tCons (tVar 1) (tCons (tC (.int b)) tNil))
def tLot (K : PySem.W.Frag) : TE := tLc (iRng1 (tCons (tNx K 9) tNil)) (gName 9) tYes
  (tCall (spPick K) [] E0 (tCons (tVar 1) (tCons (tLst (tCons (tC (.int 0)) (tCons (tC (.int 255)) (tCons (tNx K 256) (tCons (tOp (rI0 fun i j => .int (i + j)) (tC (.int 97)) (tNx K 6)) tNil))))) tNil))) [9]
theorem lot_run {l : Addr} {ns : List Int} (h : Here K H a l ns)
    (q : ∀ H' D (xs : List Int), xs.length < 64 → (∀ x ∈ xs, 0 ≤ x ∧ x < 256) → Here K H' a l ns → H' D = some (.lst (xs.map V.int)) → Q (.ref D) H') :
    tLot K (fr x0 a x2 x3 x4 x5 x6 x7 x8) H Q := by
  refine ⟨_, rfl, a, l, ns, 9, rfl, h, by decide, fun n H1 n0 n1 h1 k1 => ⟨n, rfl, by omega, by omega, fun D nD => ?_⟩⟩
  obtain ⟨⟨c, c0, ha⟩, hl⟩ := id h1
  have nDa : a ≠ D := ne_of_none ha nD
  refine lc_range (lo := 0) (n := n.toNat) (fun i H' => ∃ xs : List Int, xs.length = i ∧ (∀ x ∈ xs, 0 ≤ x ∧ x < 256) ∧ Keep a H1 H' ∧ Here K H' a l ns ∧ H' D = some (.lst (xs.map V.int)))
    ⟨[], rfl, fun x hx => (nomatch hx), Keep.of (same_new nD), h1.same (same_new nD), upd_same⟩ ?_ ?_
  · rintro i H2 hi ⟨xs, hx, hb, k2, h2, hD⟩
    refine ⟨rfl, _, rfl, _, rfl, a, l, ns, 256, rfl, h2, by decide, fun y H3 y0 y1 h3 k3 => ?_⟩
    refine ⟨_, rfl, a, l, ns, 6, rfl, h3, by decide, fun z H4 z0 z1 h4 k4 => ⟨97, z, rfl, rfl, by show 4 ≤ sizeLine; decide, fun t nt => ?_⟩⟩
    have s5 : Same H4 (upd H4 t (.lst [.int 0, .int 255, .int y, .int (97 + z)])) := same_new nt
    refine ⟨a, l, ns, t, [0, 255, y, 97 + z], rfl, h4.same s5, .of upd_same, Nat.zero_lt_succ _, fun v H6 hv h6 k6 => ?_⟩
    have kk : Keep a H2 H6 := ((k3.trans k4).trans (Keep.of s5)).trans k6
    have hD6 : H6 D = some (.lst (xs.map V.int)) := kk D _ hD nDa.symm
    refine ⟨_, hD6, by rw [List.length_map]; exact small1000 (by omega), xs ++ [v], by rw [List.length_append, hx]; rfl, fun x hx => ?_, (k2.trans kk).putNew nD, ?_, ?_⟩
    · rcases List.mem_append.mp hx with hx | hx
      · exact hb x hx
      · rw [List.mem_singleton.mp hx]
        simp only [List.mem_cons, List.not_mem_nil, or_false] at hv
        omega
    · obtain ⟨⟨c6, c60, e6⟩, _⟩ := h6
      exact ⟨⟨c6, c60, by rw [upd_ne nDa]; exact e6⟩, ((k2.trans kk).putNew nD).sq ha hl no_ref⟩
    · rw [upd_same, List.map_append]
      rfl
  · rintro H2 ⟨xs, hx, hb, _, h2, hD⟩
    exact q H2 D xs (by omega) hb h2 hD
end
end K01
namespace K01
open PySem PySem.Spec PyProof.Rows L2

section
variable {K : PySem.W.Frag} {H : Hp} {x0 : V} {a : Addr} {x2 x3 x4 x5 x6 x7 x8 : Option V} {D : Ends}

/-! ### the inner loop's turn: both tests are false -/
def tIf1 (K : PySem.W.Frag) : TS :=
  tIfS (tOr (tTest (tOp (rNeD K) (tHas K) (tVar 8))) (tTest (tOp (rNeD K) (tPairs K) (tCall (spRanges K) [] E0 (tCons (tVar 8) tNil))))) (tRet (tC (.bl false))) tNext
def tIf2 (K : PySem.W.Frag) : TS :=
  tIfS (tOr (tTest (tOp rNe (tVar 7) (tCall (spSetOf K) [] E0 (tCons (tVar 8) tNil))))
    (tTest (tOp rNe (tCall spWithout [] E0 (tCons (tCall spWithout [] E0 (tCons (tVar 7) tNil)) tNil)) (tVar 7)))) (tRet (tC (.bl false))) tNext
theorem turn_run {S : Nat} {due : List Int} {dp : Addr} (g : Good S due) (hd : SqL K H dp (due.map V.int))
    (q : ∀ H', Same H H' → D.nx (fr x0 a x2 x3 x4 x5 x6 (some (.int S)) (some (.ref dp))) H') :
    tSeq (tIf1 K) (tIf2 K) D (fr x0 a x2 x3 x4 x5 x6 (some (.int S)) (some (.ref dp))) H := by
  have gl := g.len
  unfold tSeq tIf1 tIfS tOr tTest tOp
  refine has_run fun H1 D1 s1 h1 => ⟨_, rfl, ?_⟩
  rw [g.members] at h1
  refine ⟨_, _, dp_intList (.of h1), dp_intList (s1.seq hd), shape_ints due, shape_ints due, _, rfl, ?_⟩
  have e1 : (!PyData.eqv (.list (due.map PyData.int)) (.list (due.map PyData.int))) = false := by
    rw [same_shaped (shape_ints due)]
    rfl
  rw [e1]
  refine iteF (pairs_run fun H2 D2 s2 n2 R2 => ⟨_, rfl, dp, due, rfl, (s1.trans s2).seq hd, by omega, fun H3 p3 s3 n3 R3 => ?_⟩)
  rw [g.members] at R2
  refine ⟨_, _, (R2.same s3).dp, R3.dp, shape_pairs _, shape_pairs _, _, rfl, ?_⟩
  have e2 : (!PyData.eqv (.list ((rangesL due).map pairD)) (.list ((rangesL due).map pairD))) = false := by
    rw [same_shaped (shape_pairs _)]
    rfl
  rw [e2]
  refine iteF ?_
  have s13 : Same H H3 := (s1.trans s2).trans s3
  refine ⟨_, rfl, _, rfl, dp, due, rfl, s13.seq hd, g.byte, rfl, _, rfl, ?_⟩
  have e3 : (!decide (V.int (S : Int) = V.int (setN due : Nat))) = false := by
    rw [g.back, decide_eq_true rfl]
    rfl
  rw [e3]
  refine iteF ⟨_, rfl, S, rfl, _, rfl, _, rfl, rfl, _, rfl, ?_⟩
  have e4 : (!decide (V.int (((2 ^ 256 - 1) ^^^ ((2 ^ 256 - 1) ^^^ S) : Nat) : Int) = V.int (S : Int))) = false := by
    rw [xor_twice, decide_eq_true rfl]
    rfl
  rw [e4]
  exact iteF (q H3 s13)

/-! ### told: the four pairs -/
/-- v is a tuple of a set and the list that is due for it -/
def Told (K : PySem.W.Frag) (H : Hp) (v : V) : Prop :=
  ∃ (t : Addr) (S : Nat) (due : List Int) (dp : Addr), v = .ref t ∧ H t = some (.tup [.int S, .ref dp]) ∧ SqL K H dp (due.map V.int) ∧ Good S due
theorem Told.same {H' : Hp} {v : V} (h : Told K H v) (s : Same H H') : Told K H' v := by
  obtain ⟨t, S, due, dp, e, h1, h2, g⟩ := h
  exact ⟨t, S, due, dp, e, s _ _ h1, s.seq h2, g⟩
theorem Told.keep {H' : Hp} {v : V} {b t0 : Addr} {vs : List V} (h : Told K H v) (k : Keep b H H') (hb : H b = some (.lst (.ref t0 :: vs))) : Told K H' v := by
  obtain ⟨t, S, due, dp, e, h1, h2, g⟩ := h
  exact ⟨t, S, due, dp, e, k _ _ h1 (ne_of h1 hb (by intro z; cases z)), k.sq hb h2 no_ref, g⟩
def tTold (K : PySem.W.Frag) : TS :=
  tAsg (tLst (tCons (tTup (tCons (tCall (spSetOf K) [] E0 (tCons (tVar 5) tNil)) (tCons (tVar 5) tNil)))
    (tCons (tTup (tCons (tCall (spSetOf K) [] E0 (tCons (tOp rCat (tRevL K (tVar 5)) (tVar 5)) tNil)) (tCons (tVar 5) tNil)))
    (tCons (tTup (tCons (tCall spRangeSet [] E0 (tCons (tVar 3) (tCons (tVar 4) tNil))) (tCons (tLstRg (tRg2 (tVar 3) (tOp (rI0 fun i j => .int (i + j)) (tVar 4) (tC (.int 1))))) tNil))) tNil)))) (gName 6)
def tApp (K : PySem.W.Frag) : TS :=
  tDrop (tBM K "list" rAppend (tVar 6) (tCons (tTup (tCons (tCall spWithout [] E0 (tCons (tCall (spSetOf K) [] E0 (tCons (tVar 5) tNil)) tNil)) (tCons (tLess K) tNil))) tNil))
theorem rg_upto (f l : Int) : rgV f (l + 1) = (upto f l).map V.int := by
  unfold rgV upto
  rw [List.map_map]
  rfl
theorem told_run {p : Addr} {lot : List Int} {f l : Nat} (hp : H p = some (.lst (lot.map V.int))) (hb : ∀ n ∈ lot, 0 ≤ n ∧ n < 256) (hu : lot.Pairwise (· < ·)) (hfl : f ≤ l) (hl : l < 256)
    (q : ∀ H' t6 (vs : List V), Same H H' → H' t6 = some (.lst vs) → (∀ v ∈ vs, Told K H' v) →
      D.nx (fr x0 a x2 (some (.int f)) (some (.int l)) (some (.ref p)) (some (.ref t6)) x7 x8) H') :
    tSeq (tTold K) (tApp K) D (fr x0 a x2 (some (.int f)) (some (.int l)) (some (.ref p)) x6 x7 x8) H := by
  have ll : lot.length ≤ 256 := up_len (a := 0) (k := 256) hu fun n hn => by have := hb n hn; omega
  -- (set_of(lot), lot)
  refine ⟨_, rfl, p, lot, rfl, .of hp, hb, _, rfl, by show 2 ≤ sizeLine; decide, fun t1 n1 => ?_⟩
  have s1 : Same H (upd H t1 (.tup [.int (setN lot : Nat), .ref p])) := same_new n1
  have T1 : Told K (upd H t1 (.tup [.int (setN lot : Nat), .ref p])) (.ref t1) := ⟨t1, _, lot, p, rfl, upd_same, s1.seq (.of hp), good_of hb hu fun z => Iff.rfl⟩
  generalize upd H t1 (.tup [.int (setN lot : Nat), .ref p]) = H1 at s1 T1
  -- (set_of(lot[::-1] + lot), lot)
  refine ⟨_, rfl, p, _, rfl, .of (s1 _ _ hp), fun r nr => ?_⟩
  have s2 : Same H1 (upd H1 r (.lst (lot.map V.int).reverse)) := same_new nr
  refine ⟨_, rfl, r, p, _, _, rfl, rfl, upd_same, s2 _ _ (s1 _ _ hp), by rw [List.length_reverse, List.length_map]; exact small (by omega), fun cc nc => ?_⟩
  have e3 : (lot.map V.int).reverse ++ lot.map V.int = (lot.reverse ++ lot).map V.int := by rw [List.map_append, List.map_reverse]
  rw [e3]
  have s3 : Same H (upd (upd H1 r (.lst (lot.map V.int).reverse)) cc (.lst ((lot.reverse ++ lot).map V.int))) := (s1.trans s2).trans (same_new nc)
  have T3 := T1.same (s2.trans (same_new (o := .lst ((lot.reverse ++ lot).map V.int)) nc))
  have h3 : (upd (upd H1 r (.lst (lot.map V.int).reverse)) cc (.lst ((lot.reverse ++ lot).map V.int))) cc = some (.lst ((lot.reverse ++ lot).map V.int)) := upd_same
  generalize upd (upd H1 r (.lst (lot.map V.int).reverse)) cc (.lst ((lot.reverse ++ lot).map V.int)) = H3 at s3 T3 h3
  have mem2 : ∀ z, z ∈ lot.reverse ++ lot ↔ z ∈ lot := fun z => by simp
  refine ⟨cc, _, rfl, .of h3, fun n hn => hb n ((mem2 n).mp hn), _, rfl, by show 2 ≤ sizeLine; decide, fun t2 n2 => ?_⟩
  have s4 : Same H3 (upd H3 t2 (.tup [.int (setN (lot.reverse ++ lot) : Nat), .ref p])) := same_new n2
  have T2 : Told K (upd H3 t2 (.tup [.int (setN (lot.reverse ++ lot) : Nat), .ref p])) (.ref t2) := ⟨t2, _, lot, p, rfl, upd_same, (s3.trans s4).seq (.of hp), good_of hb hu mem2⟩
  have T1' := T3.same s4
  have s5 := s3.trans s4
  generalize upd H3 t2 (.tup [.int (setN (lot.reverse ++ lot) : Nat), .ref p]) = H4 at s5 T2 T1'
  -- (range_set(first, last), list(range(first, last + 1)))
  refine ⟨_, rfl, _, rfl, f, l, rfl, hfl, hl, _, rfl, _, rfl, (l : Int), 1, rfl, rfl, (f : Int), (l : Int) + 1, rfl, rfl, RgOk.of_le (by omega) (by omega) (by omega) (by omega), fun g ng => ⟨by show 2 ≤ sizeLine; decide, fun t3 n3 => ?_⟩⟩
  rw [rg_upto] at n3 ⊢
  have s6 : Same H4 (upd H4 g (.lst ((upto f l).map V.int))) := same_new ng
  have s7 := s6.trans (same_new (o := .tup [.int ((2 ^ (l + 1) - 2 ^ f : Nat) : Int), .ref g]) n3)
  have T4 : Told K (upd (upd H4 g (.lst ((upto f l).map V.int))) t3 (.tup [.int ((2 ^ (l + 1) - 2 ^ f : Nat) : Int), .ref g])) (.ref t3) :=
    ⟨t3, _, upto f l, g, rfl, upd_same, (same_new n3).seq (.of upd_same), good_range hfl hl⟩
  have U1 := T1'.same s7
  have U2 := T2.same s7
  have s8 := s5.trans s7
  generalize upd (upd H4 g (.lst ((upto f l).map V.int))) t3 (.tup [.int ((2 ^ (l + 1) - 2 ^ f : Nat) : Int), .ref g]) = H5 at s8 T4 U1 U2
  refine ⟨by show 3 ≤ sizeLine; decide, fun t6 n6 => ?_⟩
  have s9 : Same H5 (upd H5 t6 (.lst [.ref t1, .ref t2, .ref t3])) := same_new n6
  have h6 : (upd H5 t6 (.lst [.ref t1, .ref t2, .ref t3])) t6 = some (.lst [.ref t1, .ref t2, .ref t3]) := upd_same
  have V1 := U1.same s9
  have V2 := U2.same s9
  have V3 := T4.same s9
  have s10 := s8.trans s9
  have f6 : H t6 = none := s8.free n6
  generalize upd H5 t6 (.lst [.ref t1, .ref t2, .ref t3]) = H6 at s10 h6 V1 V2 V3
  -- told.append((without(set_of(lot)), [..]))
  refine ⟨_, rfl, .inl ⟨rfl, _, .of h6⟩, _, rfl, p, lot, rfl, s10.seq (.of hp), hb, setN lot, rfl, less_run (s10.seq (.of hp)) fun H7 g7 s11 n7 h7 => ⟨by show 2 ≤ sizeLine; decide, fun t4 n4 => ?_⟩⟩
  have s12 : Same H7 (upd H7 t4 (.tup [.int (((2 ^ 256 - 1) ^^^ setN lot : Nat) : Int), .ref g7])) := same_new n4
  have T5 : Told K (upd H7 t4 (.tup [.int (((2 ^ 256 - 1) ^^^ setN lot : Nat) : Int), .ref g7])) (.ref t4) := ⟨t4, _, _, g7, rfl, upd_same, s12.seq (.of h7), good_less hb⟩
  have s13 := s11.trans s12
  have h8 := s13 _ _ h6
  have W1 := V1.same s13
  have W2 := V2.same s13
  have W3 := V3.same s13
  have s14 := s10.trans s13
  generalize upd H7 t4 (.tup [.int (((2 ^ 256 - 1) ^^^ setN lot : Nat) : Int), .ref g7]) = H8 at s14 h8 T5 W1 W2 W3
  refine ⟨t6, _, .ref t4, rfl, rfl, h8, by show 3 < sizeLine; decide, ?_⟩
  refine q _ t6 _ (samePut s14 f6) upd_same fun v hv => ?_
  simp only [List.cons_append, List.nil_append, List.mem_cons, List.not_mem_nil, or_false] at hv
  rcases hv with rfl | rfl | rfl | rfl
  · exact W1.keep Keep.put h8
  · exact W2.keep Keep.put h8
  · exact W3.keep Keep.put h8
  · exact T5.keep Keep.put h8

/-! ### lot -/
def tLotS (K : PySem.W.Frag) (w : World) : TS := tAsg (tCB (rSortedSet w) (tCons (tCB (rSetI K w) (tCons (tLot K) tNil)) tNil)) (gName 5)
theorem lotS_run {w : World} {l : Addr} {ns : List Int} (h : Here K H a l ns)
    (q : ∀ H' p (lot : List Int), (∀ n ∈ lot, 0 ≤ n ∧ n < 256) → lot.Pairwise (· < ·) → Here K H' a l ns → H' p = some (.lst (lot.map V.int)) → D.nx (fr x0 a x2 x3 x4 (some (.ref p)) x6 x7 x8) H') :
    tLotS K w D (fr x0 a x2 x3 x4 x5 x6 x7 x8) H := by
  unfold tLotS tAsg tCB tCons
  refine lot_run h fun H1 D1 xs hx hb h1 hD => ⟨D1, xs, rfl, .of hD, hx, fun b n hn nb => ?_⟩
  refine ⟨b, _, n, rfl, upd_same, by omega, fun lot p hu hm _ np => ?_⟩
  refine q _ p lot (fun z hz => hb z (of_decide_eq_true ((hm z).mp hz))) hu ((h1.same (same_new nb)).same (same_new np)) upd_same

/-! ### last -/
def tLastS (K : PySem.W.Frag) : TS :=
  tAsg (tCall (spPick K) [] E0 (tCons (tVar 1) (tCons (tLst (tCons (tVar 3) (tCons (tCB (rMin K) (tCons (tLst (tCons (tC (.int 255)) (tCons (tOp (rI0 fun i j => .int (i + j)) (tVar 3) (tNx K 40)) tNil))) tNil))
    (tCons (tC (.int 255)) tNil)))) tNil))) (gName 4)
theorem lastS_run {l : Addr} {ns : List Int} {z : Int} (h : Here K H a l ns) (z0 : 0 ≤ z) (z1 : z < 256)
    (q : ∀ H' (y : Int), z ≤ y → y < 256 → Here K H' a l ns → D.nx (fr x0 a x2 (some (.int z)) (some (.int y)) x5 x6 x7 x8) H') :
    tLastS K D (fr x0 a x2 (some (.int z)) x4 x5 x6 x7 x8) H := by
  refine ⟨_, rfl, _, rfl, _, rfl, _, rfl, a, l, ns, 40, rfl, h, by decide, fun u H1 u0 u1 h1 _ => ⟨z, u, rfl, rfl, by show 2 ≤ sizeLine; decide, fun m nm => ?_⟩⟩
  have h2 := h1.same (same_new (o := .lst [.int 255, .int (z + u)]) nm)
  refine ⟨m, [255, z + u], rfl, .of upd_same, Nat.zero_lt_succ _, fun k hk hle => ⟨by show 3 ≤ sizeLine; decide, fun t nt => ?_⟩⟩
  have h3 := h2.same (same_new (o := .lst [.int z, .int k, .int 255]) nt)
  refine ⟨a, l, ns, t, [z, k, 255], rfl, h3, .of upd_same, Nat.zero_lt_succ _, fun y H4 hy h4 _ => ?_⟩
  have k255 := hle 255 List.mem_cons_self
  simp only [List.mem_cons, List.not_mem_nil, or_false] at hk hy
  exact q H4 y (by omega) (by omega) h4
end
end K01
namespace K01
open PySem PySem.Spec PyProof.Rows L2

abbrev sLaw : Stmt := topS 14
abbrev nLaw : List Str := ["_law_script", "_law_draw_here", "_law_turn", "_law_first", "_law_last", "_law_lot", "_law_told", "_law_some", "_law_due", "_law_by", "_law_byte", "_law_pair"]
theorem scLaw : FnScope nLaw ["_law_script"] (defScope sLaw) :=
  ⟨rfl, rfl, rfl, by decide +kernel, rfl, by decide +kernel, by decide +kernel⟩
/-- a def of the text, kept by its promise -/
structure Def (P : Program) (w : World) (K : PySem.W.Frag) (mg : Str → Option Value) (base : Heap) (x : Str) (k : Nat) (ps : List Str) (sp : Sp) (f : Addr) (fd : FuncData) : Prop where
  ok : FnOk P w K mg base CX0 k f fd ps sp
  gl : mg x = some (.ref f)
  kp : PySem.W.keepIn K (.ref f) = true
  bd : Binds K fd ps []
def spLaw (K : PySem.W.Frag) : Sp := fun vs H Q _ => ∃ (S : Addr) (ns : List Int), vs = [.ref S] ∧ SqL K H S (ns.map V.int) ∧ ∀ H', Q (.bl true) H'
theorem cut_ints (ns : List Int) (lo hi : Option Int) : ∃ ms : List Int, cutV (ns.map V.int) lo hi = ms.map V.int := by
  unfold cutV
  exact ⟨_, by rw [← List.map_drop, ← List.map_take]⟩

section
variable {P : Program} {w : World} {K : PySem.W.Frag} {mg : Str → Option Value} {base : Heap}
theorem ok_law {f f1 f2 f3 f4 f5 f6 f7 f8 : Addr} {fd d1 d2 d3 d4 d5 d6 d7 d8 : FuncData} (F : Fun K "law" "law" sLaw f fd)
    (SO : Def P w K mg base "set_of" 1 ["numbers"] (spSetOf K) f1 d1)
    (RS : Def P w K mg base "range_set" 1 ["first", "last"] spRangeSet f2 d2)
    (HA : Def P w K mg base "has" 1 ["some", "byte"] spHas f3 d3)
    (WO : Def P w K mg base "without" 1 ["some"] spWithout f4 d4)
    (RO : Def P w K mg base "ranges_of" 2 ["some"] spRangesOf f5 d5)
    (NX : Def P w K mg base "_law_next" 3 ["_law_draw_here", "_law_bound"] (spNext K) f6 d6)
    (PK : Def P w K mg base "_law_pick" 4 ["_law_draw_here", "_law_things"] (spPick K) f7 d7)
    (RG : Def P w K mg base "_law_ranges" 1 ["_law_numbers"] (spRanges K) f8 d8)
    (gRange : mg "range" = none) (gMin : mg "min" = none) (gSorted : mg "sorted" = none) (gSet : mg "set" = none) (gList : mg "list" = none) (gTuple : mg "tuple" = none) :
    FnOk P w K mg base CX0 5 f fd ["_law_script"] (spLaw K) := by
  refine F.ok scLaw (fun vs H Q E h => ?_) (fun cdv A outer s H vs Q E hr h => ?_)
  · obtain ⟨S, ns, rfl, _⟩ := h
    rfl
  · obtain ⟨S, ns, rfl, hS, q⟩ := h
    have hr1 : Room 1 _ := hr.mono (by decide)
    have hr2 : Room 2 _ := hr.mono (by decide)
    have hr3 : Room 3 _ := hr.mono (by decide)
    refine ⟨_, pss_cons (ps_set (i := 1) scLaw.nd rfl (.inr rfl) (pe_lst (pa_cons (pe_slice sl_list (pv 0) po_none (po_some pe_int)) (pa_cons pe_int (pa_cons pe_int pa_nil)))))
      (pss_cons (ps_for PassesOwn.never rfl (pi_range1 rfl gRange (pa_cons pe_int pa_nil)) (pg_name (i := 2) scLaw.nd rfl (.inl rfl))
        (pss_cons (ps_set (i := 3) scLaw.nd rfl (.inl rfl) (pe_call NX.ok hr3 rfl NX.gl NX.kp NX.bd .nil pass0 (pa_cons (pv 1) (pa_cons pe_int pa_nil))))
        (pss_cons (ps_set (i := 4) scLaw.nd rfl (.inl rfl) (pe_call PK.ok hr rfl PK.gl PK.kp PK.bd .nil pass0 (pa_cons (pv 1) (pa_cons (pe_lst (pa_cons (pv 3)
          (pa_cons (pe_callB (cr_min rfl) (by rfl) gMin (by decide +kernel) (pa_cons (pe_lst (pa_cons pe_int (pa_cons (pe_op op_add (pv 3)
            (pe_call NX.ok hr3 rfl NX.gl NX.kp NX.bd .nil pass0 (pa_cons (pv 1) (pa_cons pe_int pa_nil)))) pa_nil))) pa_nil)) (pa_cons pe_int pa_nil)))) pa_nil))))
        (pss_cons (ps_set (i := 5) scLaw.nd rfl (.inr rfl) (pe_callB (cr_sortedSet rfl) (by rfl) gSorted (by decide +kernel) (pa_cons (pe_callTy (cr_setI rfl) (by rfl) gSet (by decide +kernel)
          (pa_cons (pe_lc (own := [("_law_by", 9)]) (g := gName 9) (tt := tYes) (by rfl) scLaw.nd
            (pi_range1 rfl gRange (pa_cons (pe_call NX.ok hr3 rfl NX.gl NX.kp NX.bd .nil pass0 (pa_cons (pv 1) (pa_cons pe_int pa_nil))) pa_nil))
            (blkOk_by (own := [("_law_by", 9)]) (N := nLaw) (sc := defScope sLaw) (by decide +kernel)) (fun _ _ _ _ _ => pg_name (i := 9) scLaw.nd rfl (Or.inl rfl)) (fun _ _ _ _ _ => pts_nil)
            (fun _ _ _ _ _ => pe_call PK.ok hr rfl PK.gl PK.kp PK.bd .nil pass0 (pa_cons (pv 1) (pa_cons (pe_lst (pa_cons pe_int (pa_cons pe_int
              (pa_cons (pe_call NX.ok hr3 rfl NX.gl NX.kp NX.bd .nil pass0 (pa_cons (pv 1) (pa_cons pe_int pa_nil)))
              (pa_cons (pe_op op_add pe_int (pe_call NX.ok hr3 rfl NX.gl NX.kp NX.bd .nil pass0 (pa_cons (pv 1) (pa_cons pe_int pa_nil)))) pa_nil))))) pa_nil)))) pa_nil)) pa_nil)))
        (pss_cons (ps_set (i := 6) scLaw.nd rfl (.inl rfl) (pe_lst
          (pa_cons (pe_tup (pa_cons (pe_call SO.ok hr1 rfl SO.gl SO.kp SO.bd .nil pass0 (pa_cons (pv 5) pa_nil)) (pa_cons (pv 5) pa_nil)))
          (pa_cons (pe_tup (pa_cons (pe_call SO.ok hr1 rfl SO.gl SO.kp SO.bd .nil pass0 (pa_cons (pe_op op_cat (pe_revL (pv 5)) (pv 5)) pa_nil)) (pa_cons (pv 5) pa_nil)))
          (pa_cons (pe_tup (pa_cons (pe_call RS.ok hr1 rfl RS.gl RS.kp RS.bd .nil pass0 (pa_cons (pv 3) (pa_cons (pv 4) pa_nil)))
            (pa_cons (pe_listRg (by rfl) rfl gList (prg_2 rfl gRange (pv 3) (pe_op op_add (pv 4) pe_int))) pa_nil))) pa_nil)))))
        (pss_cons (ps_expr (pe_bm PySem.F.plainAttrs_list PySem.F.slot_list_append PySem.F.type_list_append mt_append (pv 6) (pa_cons (pe_tup
          (pa_cons (pe_call WO.ok hr1 rfl WO.gl WO.kp WO.bd .nil pass0 (pa_cons (pe_call SO.ok hr1 rfl SO.gl SO.kp SO.bd .nil pass0 (pa_cons (pv 5) pa_nil)) pa_nil))
          (pa_cons (pe_lc (own := [("_law_byte", 10)]) (g := gName 10) (by rfl) scLaw.nd (pi_range1 rfl gRange (pa_cons pe_int pa_nil))
            (blkOk_by (own := [("_law_byte", 10)]) (N := nLaw) (sc := defScope sLaw) (by decide +kernel)) (fun _ _ _ _ _ => pg_name (i := 10) scLaw.nd rfl (Or.inl rfl))
            (fun _ _ _ _ _ => pts_one (pt_cmpR (r := rIn K true) op_notIn_seq (pv 10) (pv 5) (by rfl))) (fun _ _ _ _ _ => pv 10)) pa_nil))) pa_nil)))
        (pss_one (ps_for PassesOwn.never rfl (pi_list (pv 6)) (pg_tup rfl (pgs_cons (pg_name (i := 7) scLaw.nd rfl (.inr rfl)) (pgs_cons (pg_name (i := 8) scLaw.nd rfl (.inl rfl)) pgs_nil)))
          (pss_cons (ps_if (PW.pt (pw_or (pt_cmpR (op_neD hr.units)
              (pe_lc (own := [("_law_byte", 10)]) (g := gName 10) (by rfl) scLaw.nd (pi_range1 rfl gRange (pa_cons pe_int pa_nil))
                (blkOk_by (own := [("_law_byte", 10)]) (N := nLaw) (sc := defScope sLaw) (by decide +kernel)) (fun _ _ _ _ _ => pg_name (i := 10) scLaw.nd rfl (Or.inl rfl))
                (fun _ _ _ _ _ => pts_one (pt_val (pe_call HA.ok hr1 rfl HA.gl HA.kp HA.bd .nil pass0 (pa_cons (pv 7) (pa_cons (pv 10) pa_nil))))) (fun _ _ _ _ _ => pv 10))
              (pv 8) (nomark _))
            (pw_or1 (pt_cmpR (op_neD hr.units)
              (pe_lc (own := [("_law_pair", 11)]) (g := gName 11) (tt := tYes) (by rfl) scLaw.nd (pi_list (pe_call RO.ok hr2 rfl RO.gl RO.kp RO.bd .nil pass0 (pa_cons (pv 7) pa_nil)))
                (blkOk_by (own := [("_law_pair", 11)]) (N := nLaw) (sc := defScope sLaw) (by decide +kernel)) (fun _ _ _ _ _ => pg_name (i := 11) scLaw.nd rfl (Or.inl rfl)) (fun _ _ _ _ _ => pts_nil)
                (fun _ _ _ _ _ => pe_callTy (T := "tuple") (r := rTupT K) call_tupleT (by rfl) gTuple (by decide +kernel) (pa_cons (pv 11) pa_nil)))
              (pe_call RG.ok hr1 rfl RG.gl RG.kp RG.bd .nil pass0 (pa_cons (pv 8) pa_nil)) (nomark _)))))
            (pss_one (ps_ret pe_bl)) pss_nil)
          (pss_one (ps_if (PW.pt (pw_or (pt_cmpR op_ne (pv 7) (pe_call SO.ok hr1 rfl SO.gl SO.kp SO.bd .nil pass0 (pa_cons (pv 8) pa_nil)) (nomark _))
            (pw_or1 (pt_cmpR op_ne (pe_call WO.ok hr1 rfl WO.gl WO.kp WO.bd .nil pass0 (pa_cons (pe_call WO.ok hr1 rfl WO.gl WO.kp WO.bd .nil pass0 (pa_cons (pv 7) pa_nil)) pa_nil)) (pv 7) (nomark _)))))
            (pss_one (ps_ret pe_bl)) pss_nil)))))))))))
      (pss_one (ps_ret pe_bl))), ?_⟩
    -- here = [script[:63], 0, 0]
    refine ⟨_, rfl, 63, rfl, S, _, rfl, hS, fun l nl => ⟨by show 3 ≤ sizeLine; decide, fun a na => ?_⟩⟩
    obtain ⟨ms, em⟩ := cut_ints ns none (some 63)
    rw [em] at na ⊢
    have h0 : Here K (upd (upd H l (.lst (ms.map V.int))) a (.lst [.ref l, .int 0, .int 0])) a l ms :=
      ⟨⟨0, Int.le_refl 0, upd_same⟩, (same_new na).seq (.of upd_same)⟩
    generalize upd (upd H l (.lst (ms.map V.int))) a (.lst [.ref l, .int 0, .int 0]) = H0 at h0
    refine ⟨4, rfl, by decide, by decide, ?_⟩
    refine for_range (lo := 0) (n := 4) (fun i σ H' => ∃ x2 x3 x4 x5 x6 x7 x8, σ = fr (.ref S) a x2 x3 x4 x5 x6 x7 x8 ∧ Here K H' a l ms) ⟨none, none, none, none, none, none, none, rfl, h0⟩ ?_ ?_
    · rintro i σ H1 hi ⟨x2, x3, x4, x5, x6, x7, x8, rfl, h1⟩
      refine ⟨_, rfl, a, l, ms, 256, rfl, h1, by decide, fun z H2 z0 z1 h2 _ => ?_⟩
      refine lastS_run (x0 := .ref S) (a := a) (x2 := some (.int (0 + (i : Int)))) (x4 := x4) (x5 := x5) (x6 := x6) (x7 := x7) (x8 := x8) h2 z0 z1 fun H3 y y0 y1 h3 => ?_
      refine lotS_run (x0 := .ref S) (a := a) (x2 := some (.int (0 + (i : Int)))) (x3 := some (.int z)) (x4 := some (.int y)) (x5 := x5) (x6 := x6) (x7 := x7) (x8 := x8) (w := w) h3 fun H4 p lot hb hu h4 hp => ?_
      obtain ⟨zn, rfl⟩ := Int.eq_ofNat_of_zero_le z0
      obtain ⟨yn, rfl⟩ := Int.eq_ofNat_of_zero_le (Int.le_trans z0 y0)
      refine told_run (x0 := .ref S) (a := a) (x2 := some (.int (0 + (i : Int)))) (x6 := x6) (x7 := x7) (x8 := x8) (f := zn) (l := yn) hp hb hu (by omega) (by omega) fun H5 t6 vs s5 h6 ht => ?_
      refine ⟨_, rfl, t6, rfl, ⟨_, .of h6⟩, ?_⟩
      refine for_list (K := K) (a := t6) (xs := vs) (fun j σ H' => ∃ x7 x8, σ = fr (.ref S) a (some (.int (0 + (i : Int)))) (some (.int zn)) (some (.int yn)) (some (.ref p)) (some (.ref t6)) x7 x8 ∧ Same H5 H')
        ⟨x7, x8, rfl, Same.refl _⟩ (fun j σ H' _ ⟨_, _, _, s6⟩ => s6.seq (.of h6)) ?_ ?_
      · rintro j v σ H6 hv ⟨y7, y8, rfl, s6⟩
        obtain ⟨t, T, due, dp, rfl, g1, g2, g⟩ := (ht v (List.mem_of_getElem? hv)).same s6
        refine ⟨t, _, rfl, .of g1, rfl, _, _, rfl, _, _, rfl, rfl, ?_⟩
        exact turn_run (x0 := .ref S) (a := a) (x2 := some (.int (0 + (i : Int)))) (x3 := some (.int zn)) (x4 := some (.int yn)) (x5 := some (.ref p)) (x6 := some (.ref t6)) g g2 fun H7 s7 => ⟨_, _, rfl, s6.trans s7⟩
      · rintro σ H6 ⟨y7, y8, rfl, s6⟩
        exact ⟨_, _, _, _, _, _, _, rfl, (h4.same s5).same s6⟩
    · rintro σ H1 ⟨x2, x3, x4, x5, x6, x7, x8, rfl, h1⟩
      exact q H1
end
end K01
namespace K01
open PySem PySem.Spec PyProof.Rows L2

/-! ### what the top has left -/
theorem all_defs {l : PySem.W.OpenLaw} {w : World} {K : PySem.W.Frag} {h : Heap} {mg : Str → Option Value} {fa f1 f2 f3 f4 f5 f6 f7 f8 f9 f10 f11 f12 : Addr} (X : K.In h) (G : h.Ns mainGlobals mg) (hfa : mg "law" = some (.ref fa))
    {od1 an1 od2 an2 od3 an3 od4 an4 od5 an5 od6 an6 od7 an7 od8 an8 od9 an9 od10 an10 od11 an11 od12 an12 : Option Addr}
    {sl1 sl2 sl3 sl4 sl5 sl6 sl7 sl8 sl9 sl10 sl11 sl12 : Array (Option Value)}
    {oc1 kV1 dc1 pm1 cd1 ct1 oc2 kV2 dc2 pm2 cd2 ct2 oc3 kV3 dc3 pm3 cd3 ct3 oc4 kV4 dc4 pm4 cd4 ct4 oc5 kV5 dc5 pm5 cd5 ct5 oc6 kV6 dc6 pm6 cd6 ct6 oc7 kV7 dc7 pm7 cd7 ct7 oc8 kV8 dc8 pm8 cd8 ct8 oc9 kV9 dc9 pm9 cd9 ct9 oc10 kV10 dc10 pm10 cd10 ct10 oc11 kV11 dc11 pm11 cd11 ct11 oc12 kV12 dc12 pm12 cd12 ct12 : Value}
    {nA : Int} {tA : Tok}
    (a1 : PySem.W.nsIn K mainGlobals "set_of" = some (some (.ref f1)))
    (l1 : K.lookup f1 = some ⟨oc1, od1, .func (PySem.W.fnOf "set_of" "set_of" (defArgs sSetOf) (defBody sSetOf) (defScope sSetOf) .none kV1 dc1 pm1 an1 cd1 ct1), sl1⟩)
    (c1 : PySem.W.codeIn K cd1 "set_of" = true) (k1 : PySem.W.keepIn K (.ref f1) = true)
    (a2 : PySem.W.nsIn K mainGlobals "range_set" = some (some (.ref f2)))
    (l2 : K.lookup f2 = some ⟨oc2, od2, .func (PySem.W.fnOf "range_set" "range_set" (defArgs sRangeSet) (defBody sRangeSet) (defScope sRangeSet) .none kV2 dc2 pm2 an2 cd2 ct2), sl2⟩)
    (c2 : PySem.W.codeIn K cd2 "range_set" = true) (k2 : PySem.W.keepIn K (.ref f2) = true)
    (a3 : PySem.W.nsIn K mainGlobals "has" = some (some (.ref f3)))
    (l3 : K.lookup f3 = some ⟨oc3, od3, .func (PySem.W.fnOf "has" "has" (defArgs sHas) (defBody sHas) (defScope sHas) .none kV3 dc3 pm3 an3 cd3 ct3), sl3⟩)
    (c3 : PySem.W.codeIn K cd3 "has" = true) (k3 : PySem.W.keepIn K (.ref f3) = true)
    (a4 : PySem.W.nsIn K mainGlobals "without" = some (some (.ref f4)))
    (l4 : K.lookup f4 = some ⟨oc4, od4, .func (PySem.W.fnOf "without" "without" (defArgs sWithout) (defBody sWithout) (defScope sWithout) .none kV4 dc4 pm4 an4 cd4 ct4), sl4⟩)
    (c4 : PySem.W.codeIn K cd4 "without" = true) (k4 : PySem.W.keepIn K (.ref f4) = true)
    (a5 : PySem.W.nsIn K mainGlobals "ranges_of" = some (some (.ref f5)))
    (l5 : K.lookup f5 = some ⟨oc5, od5, .func (PySem.W.fnOf "ranges_of" "ranges_of" (defArgs sRangesOf) (defBody sRangesOf) (defScope sRangesOf) .none kV5 dc5 pm5 an5 cd5 ct5), sl5⟩)
    (c5 : PySem.W.codeIn K cd5 "ranges_of" = true) (k5 : PySem.W.keepIn K (.ref f5) = true)
    (a6 : PySem.W.nsIn K mainGlobals "_law_cell_at" = some (some (.ref f6)))
    (l6 : K.lookup f6 = some ⟨oc6, od6, .func (PySem.W.fnOf "_law_cell_at" "_law_cell_at" (defArgs sCellAt) (defBody sCellAt) (defScope sCellAt) .none kV6 dc6 pm6 an6 cd6 ct6), sl6⟩)
    (c6 : PySem.W.codeIn K cd6 "_law_cell_at" = true) (k6 : PySem.W.keepIn K (.ref f6) = true)
    (a7 : PySem.W.nsIn K mainGlobals "_law_draw" = some (some (.ref f7)))
    (l7 : K.lookup f7 = some ⟨oc7, od7, .func (PySem.W.fnOf "_law_draw" "_law_draw" (defArgs sDraw) (defBody sDraw) (defScope sDraw) .none kV7 dc7 pm7 an7 cd7 ct7), sl7⟩)
    (c7 : PySem.W.codeIn K cd7 "_law_draw" = true) (k7 : PySem.W.keepIn K (.ref f7) = true)
    (a8 : PySem.W.nsIn K mainGlobals "_law_number" = some (some (.ref f8)))
    (l8 : K.lookup f8 = some ⟨oc8, od8, .func (PySem.W.fnOf "_law_number" "_law_number" (defArgs sNumber) (defBody sNumber) (defScope sNumber) .none kV8 dc8 pm8 an8 cd8 ct8), sl8⟩)
    (c8 : PySem.W.codeIn K cd8 "_law_number" = true) (k8 : PySem.W.keepIn K (.ref f8) = true)
    (a9 : PySem.W.nsIn K mainGlobals "_law_next" = some (some (.ref f9)))
    (l9 : K.lookup f9 = some ⟨oc9, od9, .func (PySem.W.fnOf "_law_next" "_law_next" (defArgs sNext) (defBody sNext) (defScope sNext) .none kV9 dc9 pm9 an9 cd9 ct9), sl9⟩)
    (c9 : PySem.W.codeIn K cd9 "_law_next" = true) (k9 : PySem.W.keepIn K (.ref f9) = true)
    (a10 : PySem.W.nsIn K mainGlobals "_law_pick" = some (some (.ref f10)))
    (l10 : K.lookup f10 = some ⟨oc10, od10, .func (PySem.W.fnOf "_law_pick" "_law_pick" (defArgs sPick) (defBody sPick) (defScope sPick) .none kV10 dc10 pm10 an10 cd10 ct10), sl10⟩)
    (c10 : PySem.W.codeIn K cd10 "_law_pick" = true) (k10 : PySem.W.keepIn K (.ref f10) = true)
    (a11 : PySem.W.nsIn K mainGlobals "_law_ranges" = some (some (.ref f11)))
    (l11 : K.lookup f11 = some ⟨oc11, od11, .func (PySem.W.fnOf "_law_ranges" "_law_ranges" (defArgs sRanges) (defBody sRanges) (defScope sRanges) .none kV11 dc11 pm11 an11 cd11 ct11), sl11⟩)
    (c11 : PySem.W.codeIn K cd11 "_law_ranges" = true) (k11 : PySem.W.keepIn K (.ref f11) = true)
    (a12 : PySem.W.nsIn K mainGlobals "law" = some (some (.ref f12)))
    (l12 : K.lookup f12 = some ⟨oc12, od12, .func (PySem.W.fnOf "law" "law" (defArgs sLaw) (defBody sLaw) (defScope sLaw) .none kV12 dc12 pm12 an12 cd12 ct12), sl12⟩)
    (c12 : PySem.W.codeIn K cd12 "law" = true) (k12 : PySem.W.keepIn K (.ref f12) = true)
    (zA : PySem.W.nsIn K mainGlobals "ALL" = some (some (.int nA tA))) (hA : nA = ((2 ^ 256 - 1 : Nat) : Int))
    (z1 : PySem.W.nsIn K mainGlobals "len" = some none)
    (z2 : PySem.W.nsIn K mainGlobals "int" = some none)
    (z3 : PySem.W.nsIn K mainGlobals "range" = some none)
    (z4 : PySem.W.nsIn K mainGlobals "min" = some none)
    (z5 : PySem.W.nsIn K mainGlobals "sorted" = some none)
    (z6 : PySem.W.nsIn K mainGlobals "set" = some none)
    (z7 : PySem.W.nsIn K mainGlobals "list" = some none)
    (z8 : PySem.W.nsIn K mainGlobals "tuple" = some none)
    : ∃ fd : FuncData, (∀ (s : Shared) (v : Value), BindsTo s fd ⟨[v], []⟩ [("_law_script", v)]) ∧ ∀ base : Heap, K.In base → base.Ns mainGlobals mg → FnOk l.prog w K mg base CX0 5 fa fd ["_law_script"] (spLaw K) := by
  have e := hfa.symm.trans (PySem.W.mg_of X G a12)
  cases e
  subst hA
  have F1 := fun_mk (st := sSetOf) l1 c1 k1
  have F2 := fun_mk (st := sRangeSet) l2 c2 k2
  have F3 := fun_mk (st := sHas) l3 c3 k3
  have F4 := fun_mk (st := sWithout) l4 c4 k4
  have F5 := fun_mk (st := sRangesOf) l5 c5 k5
  have F6 := fun_mk (st := sCellAt) l6 c6 k6
  have F7 := fun_mk (st := sDraw) l7 c7 k7
  have F8 := fun_mk (st := sNumber) l8 c8 k8
  have F9 := fun_mk (st := sNext) l9 c9 k9
  have F10 := fun_mk (st := sPick) l10 c10 k10
  have F11 := fun_mk (st := sRanges) l11 c11 k11
  have F12 := fun_mk (st := sLaw) l12 c12 k12
  have b1 := F1.binds (ps := ["numbers"]) fun _ _ _ _ _ _ us hl => match us, hl with | [_], _ => rfl
  have b2 := F2.binds (ps := ["first", "last"]) fun _ _ _ _ _ _ us hl => match us, hl with | [_, _], _ => rfl
  have b3 := F3.binds (ps := ["some", "byte"]) fun _ _ _ _ _ _ us hl => match us, hl with | [_, _], _ => rfl
  have b4 := F4.binds (ps := ["some"]) fun _ _ _ _ _ _ us hl => match us, hl with | [_], _ => rfl
  have b5 := F5.binds (ps := ["some"]) fun _ _ _ _ _ _ us hl => match us, hl with | [_], _ => rfl
  have b6 := F6.binds (ps := ["_law_script", "_law_k"]) fun _ _ _ _ _ _ us hl => match us, hl with | [_, _], _ => rfl
  have b7 := F7.binds (ps := ["_law_cell", "_law_k", "_law_bound"]) fun _ _ _ _ _ _ us hl => match us, hl with | [_, _, _], _ => rfl
  have b8 := F8.binds (ps := ["_law_cell", "_law_k", "_law_bound"]) fun _ _ _ _ _ _ us hl => match us, hl with | [_, _, _], _ => rfl
  have b9 := F9.binds (ps := ["_law_draw_here", "_law_bound"]) fun _ _ _ _ _ _ us hl => match us, hl with | [_, _], _ => rfl
  have b10 := F10.binds (ps := ["_law_draw_here", "_law_things"]) fun _ _ _ _ _ _ us hl => match us, hl with | [_, _], _ => rfl
  have b11 := F11.binds (ps := ["_law_numbers"]) fun _ _ _ _ _ _ us hl => match us, hl with | [_], _ => rfl
  have g1 : mg "set_of" = some (.ref f1) := PySem.W.mg_of X G a1
  have g2 : mg "range_set" = some (.ref f2) := PySem.W.mg_of X G a2
  have g3 : mg "has" = some (.ref f3) := PySem.W.mg_of X G a3
  have g4 : mg "without" = some (.ref f4) := PySem.W.mg_of X G a4
  have g5 : mg "ranges_of" = some (.ref f5) := PySem.W.mg_of X G a5
  have g6 : mg "_law_cell_at" = some (.ref f6) := PySem.W.mg_of X G a6
  have g7 : mg "_law_draw" = some (.ref f7) := PySem.W.mg_of X G a7
  have g8 : mg "_law_number" = some (.ref f8) := PySem.W.mg_of X G a8
  have g9 : mg "_law_next" = some (.ref f9) := PySem.W.mg_of X G a9
  have g10 : mg "_law_pick" = some (.ref f10) := PySem.W.mg_of X G a10
  have g11 : mg "_law_ranges" = some (.ref f11) := PySem.W.mg_of X G a11
  have n1 : mg "len" = none := PySem.W.mg_none_of X G z1
  have n2 : mg "int" = none := PySem.W.mg_none_of X G z2
  have n3 : mg "range" = none := PySem.W.mg_none_of X G z3
  have n4 : mg "min" = none := PySem.W.mg_none_of X G z4
  have n5 : mg "sorted" = none := PySem.W.mg_none_of X G z5
  have n6 : mg "set" = none := PySem.W.mg_none_of X G z6
  have n7 : mg "list" = none := PySem.W.mg_none_of X G z7
  have n8 : mg "tuple" = none := PySem.W.mg_none_of X G z8
  refine ⟨PySem.W.fnOf "law" "law" (defArgs sLaw) (defBody sLaw) (defScope sLaw) .none kV12 dc12 pm12 an12 cd12 ct12, fun s v => .of_eq rfl, fun base _ _ => ?_⟩
  have NX : FnOk l.prog w K mg base CX0 3 f9 _ ["_law_draw_here", "_law_bound"] (spNext K) := ok_next F9 F6 b6 g6 F8 b8 g8 F7 b7 g7 n2 n3 n1
  exact ok_law F12 ⟨ok_setOf F1, g1, F1.kp, b1⟩ ⟨ok_rangeSet F2, g2, F2.kp, b2⟩ ⟨ok_has F3, g3, F3.kp, b3⟩ ⟨ok_without F4 ⟨tA, PySem.W.mg_of X G zA⟩, g4, F4.kp, b4⟩
    ⟨ok_rangesOf F5 F3 b3 g3 n3, g5, F5.kp, b5⟩ ⟨NX, g9, F9.kp, b9⟩ ⟨ok_pick F10 NX F9.kp b9 g9 n1, g10, F10.kp, b10⟩ ⟨ok_ranges F11, g11, F11.kp, b11⟩ n3 n4 n5 n6 n7 n8
end K01
open PySem PySem.W PyProof.Rows
set_option maxRecDepth 100000 in
set_option maxHeartbeats 0 in
theorem PySem.Challenge.cw_beatscan_k01_whole_sets_holds : PySem.Challenge.rw_beatscan_k01_whole_sets.Holds := by
  w_on; o_law; k_head; (case hw => w_witness2)
  k_fill
  refine L2.walk_of (l := PySem.Challenge.rw_beatscan_k01_whole_sets) (n := 63) (k := 5) (x := "_law_script") (CX := fun _ => L2.CX0) (sp := fun w => K01.spLaw _) rfl (by decide) rfl ⟨rfl, by decide, by decide⟩ (fun w h Y => PySem.W.kIn_of Y) ?F (fun _ _ a ns _ _ hS => ⟨a, ns, rfl, hS, fun _ => rfl⟩) (fun _ _ _ _ _ h => h)
  case F =>
    intro w mg fa h KX G hmg
    refine' K01.all_defs KX G hmg ?a1 ?l1 ?c1 ?k1 ?a2 ?l2 ?c2 ?k2 ?a3 ?l3 ?c3 ?k3 ?a4 ?l4 ?c4 ?k4 ?a5 ?l5 ?c5 ?k5 ?a6 ?l6 ?c6 ?k6 ?a7 ?l7 ?c7 ?k7 ?a8 ?l8 ?c8 ?k8 ?a9 ?l9 ?c9 ?k9 ?a10 ?l10 ?c10 ?k10 ?a11 ?l11 ?c11 ?k11 ?a12 ?l12 ?c12 ?k12 ?zA ?hA ?z1 ?z2 ?z3 ?z4 ?z5 ?z6 ?z7 ?z8
    (case a1 => k_is); (case l1 => k_is); (case c1 => k_is); (case k1 => k_is)
    (case a2 => k_is); (case l2 => k_is); (case c2 => k_is); (case k2 => k_is)
    (case a3 => k_is); (case l3 => k_is); (case c3 => k_is); (case k3 => k_is)
    (case a4 => k_is); (case l4 => k_is); (case c4 => k_is); (case k4 => k_is)
    (case a5 => k_is); (case l5 => k_is); (case c5 => k_is); (case k5 => k_is)
    (case a6 => k_is); (case l6 => k_is); (case c6 => k_is); (case k6 => k_is)
    (case a7 => k_is); (case l7 => k_is); (case c7 => k_is); (case k7 => k_is)
    (case a8 => k_is); (case l8 => k_is); (case c8 => k_is); (case k8 => k_is)
    (case a9 => k_is); (case l9 => k_is); (case c9 => k_is); (case k9 => k_is)
    (case a10 => k_is); (case l10 => k_is); (case c10 => k_is); (case k10 => k_is)
    (case a11 => k_is); (case l11 => k_is); (case c11 => k_is); (case k11 => k_is)
    (case a12 => k_is); (case l12 => k_is); (case c12 => k_is); (case k12 => k_is)
    (case zA => k_is); (case hA => decide +kernel)
    (case z1 => k_is); (case z2 => k_is); (case z3 => k_is); (case z4 => k_is); (case z5 => k_is); (case z6 => k_is); (case z7 => k_is); (case z8 => k_is)
#print axioms PySem.Challenge.cw_beatscan_k01_whole_sets_holds
