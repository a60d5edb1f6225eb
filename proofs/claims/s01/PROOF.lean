import PyProof.Rows.All
import Wide.All
import OpenK.AllK
import Wide.FinOn
import Lean
import HandS.ForMost
import HandS.Spec
import HandS.Defaults
import HandS.SortInts
import HandS.Style
import HandS.Conv
import HandS.NoneIn
import HandS.Walk
import HandS.More
import HandS.Flow
import HandS.WideBits
import HandS.Evl
import PyProof.Rows.SumAny
import HandS.Head0
import HandS.Head1
import HandS.Head2
import HandS.Head3
import HandS.Head4
import HandS.HeadEnd
import HandS.HeadHook1
import HandS.HeadHook2
import PySem.Challenge.RW_guardedkeep_s01_answers
section
set_option Elab.async false
set_option linter.all false
set_option maxRecDepth 100000
set_option maxHeartbeats 4000000
/-! ### Rules that the layer lacks -/
namespace GK
open PySem PySem.Spec PyProof.Rows L2
section
variable {X : Cx}
/-- xs[i] behind xs[i] op= e -/
def rGetL (K : PySem.W.Frag) : V → V → Hp → VK → Prop := fun x y H Q => ∃ p xs i v, x = .ref p ∧ y = .int i ∧ SqL K H p xs ∧ 0 ≤ i ∧ atI xs i = some v ∧ Q v H
theorem get_list : PGet X (rGetL X.K) := by
  intro pins s σ H x y v u Q I rx ry h
  obtain ⟨p, xs, i, z, rfl, rfl, hq, h0, he, q⟩ := h
  cases rx
  obtain ⟨t, rfl⟩ := ry
  obtain ⟨its, r, pl, hz⟩ := I.list hq
  obtain ⟨j, h1, h2, h3, h4, h5⟩ := atI_get he
  obtain ⟨w, ew, rw'⟩ := r.get h2
  have hl := r.length
  have hn := line63
  have fin : EP X pins σ Q w s := ⟨z, H, I, rw', q⟩
  have hj : i.toNat = j := by
    rw [seqIndex_of h0 h5] at h1
    exact Option.some.inj h1
  exact wpAny_getItem_list pl.isList h0 (by omega) (by rw [hj]; simpa using ew) fin
/-- sum of a tuple of ints -/
def rSumT (K : PySem.W.Frag) : List V → Hp → VK → Prop := fun vs H Q => ∃ (a : Addr) (ns : List Int), vs = [V.ref a] ∧ SqT K H a (ns.map V.int) ∧ Q (.int ns.sum) H
theorem cr_sumT (hc : X.calm = true) : CallR X (.builtin "sum") (rSumT X.K) := by
  intro pins s σ H vs us Q I r h
  obtain ⟨a, ns, rfl, hs, q⟩ := h
  obtain ⟨its, rv, ht, _⟩ := I.tuple hs
  rw [Vals.ref1 r]
  have hi := rv.ints
  obtain ⟨xs, e⟩ := hi.allInts.items
  have hn : numsOf (intItems xs).toList = ns := by rw [← e]; exact hi.numsOf
  rw [nums_intItems] at hn
  have hT : s.heap.IsTuple a (intItems xs) := by
    obtain ⟨o, e1, e2, n, e3⟩ := ht
    exact ⟨o, e1, e2, n, by rw [← e]; exact e3⟩
  have hlt : a < s.heap.objs.size := by
    obtain ⟨_, e1, _⟩ := hT
    exact Heap.lt_size e1
  refine PySem.call_sum_walkG (wpAny_pyIter_tuple hT ?_)
  refine ⟨_, [_, a], [_], _, _, _, numAt xs, rfl, Walks.tuple (A := X.A.in1) (I.ok.hd hc) _ a (Nat.ne_of_lt hlt) (intItems xs), ⟨⟨_, Heap.get?_push_size _ rfl, rfl, rfl⟩, hT.push _⟩, fun c hc => ?_, (fun _ _ => intItems_at), fun h' tk t' hk => ?_⟩
  · show c < (s.heap.push _).objs.size
    rw [Heap.size_push]
    rcases List.mem_cons.mp hc with rfl | hc
    · exact Nat.lt_succ_self _
    · rcases List.mem_cons.mp hc with rfl | hc
      · exact Nat.lt_succ_of_lt hlt
      · cases hc
  · have old : ∀ b o, s.heap.get? b = some o → h'.get? b = some o := fun b o e1 => by
      refine hk b o (fun hm => ?_) (Heap.get?_push_of_some _ e1)
      rcases List.mem_cons.mp hm with e2 | hm
      · exact absurd (e2 ▸ Heap.lt_size e1) (Nat.lt_irrefl _)
      · cases hm
    have es : preSum (numAt xs) (intItems xs).size = ns.sum := by
      rw [preSum_eq, List.take_of_length_le (by simp [intItems]), hn]
    rw [es]
    exact ⟨.int _, H, I.kept old, ⟨_, rfl⟩, q⟩
/-- sorted of a dict with int keys, any number of them -/
def rSortedDI : List V → Hp → VK → Prop := fun xs H Q => ∃ (a : Addr) (kvs : List (Key × V)) (ks : List Int), xs = [.ref a] ∧ Rd H a (.dK kvs) ∧ kvs.map (·.1) = ks.map Sum.inl ∧
    ∀ (ys : List Int) (p : Addr), ys.Perm ks → ys.Pairwise (· ≤ ·) → H p = none → Q (.ref p) (upd H p (.lst (ys.map V.int)))
theorem cr_sortedDI (hcalm : X.calm = true) : CallR X (.builtin "sorted") rSortedDI := by
  intro pins s σ H xs us Q I r q
  obtain ⟨a, kvs, ks, ex, hd, hks, q⟩ := q
  subst ex
  obtain ⟨u, eu, rx⟩ := vals1 r
  subst eu
  cases rx
  obtain ⟨z, lo, vs, rel, dd⟩ := dk_rd I.hok hd
  obtain ⟨ep, hat⟩ := dd.dictAt
  have hkeys : vs.map (·.1) = ks.map Sum.inl := rel.keys.symm.trans hks
  have hl : vs.length = ks.length := by
    have e := congrArg List.length hkeys
    rw [List.length_map, List.length_map] at e
    exact e
  have hl2 : kvs.length = ks.length := by
    have e := congrArg List.length hks
    rw [List.length_map, List.length_map] at e
    exact e
  have h16 : vs.length ≤ sizeLine := by rw [hl, ← hl2]; exact z
  refine Calls.call_function_entry PyProof.Rows.kind_sorted PyProof.Rows.plain_sorted PyProof.Rows.entry_sorted (PyProof.Rows.args_sorted1 _) ?_
  unfold Builtin.«sorted»
  refine wpAny_bind (m := checkCount "sorted" 1 1 _) (wpAny_pure ?_)
  refine wpAny_bind (PySem.W.kdu_collect (A := X.A.in1) (PySem.W.kdl_dict (knd := mixKind X.prog X.w) (kvs := vs) (ep := ep) lo) (I.ok.hd hcalm) hat h16 fun h' tk acc hk hacc => ?_)
  have hal : acc.toList.length = ks.length := by rw [Array.length_toList, hacc.1, hl]
  have hS : IntsAre acc.toList ks := ints_each hal fun j v e => by
    obtain ⟨k, x, e1, e2⟩ := hacc.2 j v (by rw [← Array.getElem?_toList]; exact e)
    have e3 : (vs.map (·.1))[j]? = some k := by rw [List.getElem?_map, e1]; rfl
    rw [hkeys, List.getElem?_map] at e3
    cases e4 : ks[j]? with
    | none => rw [e4] at e3; cases e3
    | some y =>
      rw [e4] at e3
      have e5 : Sum.inl y = k := Option.some.inj e3
      subst e5
      rcases keyIs_shape (show keyIs (Sum.inl y) v = true from e2) with ⟨i, t, ek, ev⟩ | ⟨z, t, ek, ev⟩
      · cases ek
        exact ⟨y, t, rfl, ev⟩
      · cases ek
  have hsz : acc.toList.length ≤ sizeLine := by rw [hal, ← hl2]; exact z
  have I1 : Inv X pins σ H { s with heap := h', toks := tk } := I.kept hk
  refine wpAny_bind (wpAny_newList ?_ hsz)
  have hoL : (h'.push (seqObj "list" acc.toList.toArray 0)).get? h'.objs.size = some (seqObj "list" acc.toList.toArray 0) := Heap.get?_push_size _ rfl
  show wpAny _ _ _ _ _ { s with heap := h'.push (seqObj "list" acc.toList.toArray 0), toks := tk }
  refine wpAny_bind (wpAny_holding (wpAny_call_entry PyProof.Rows.slot_list_sort ⟨_, hoL, rfl⟩ PyProof.Rows.entry_list_sort
    (SrtO.list_sort_ord (s := { s with heap := h'.push (seqObj "list" acc.toList.toArray 0), toks := tk }) SrtO.swo_int hoL hsz (fun h2 => SrtO.ints_sortable hS h2) fun out h1 h2 => ⟨_, rfl, ?_⟩) (PyProof.Rows.args_list_sort _)))
  obtain ⟨k1, k2, k3⟩ := SrtO.ints_out hS h1 h2
  obtain ⟨e', he'⟩ := PyProof.Rows.sortedHeap_at (vs := acc.toList) (out := out.toArray) hoL
  have hlen : ((out.map SrtO.iv).map V.int).length ≤ sizeLine := by
    rw [List.length_map, k2.length_eq, ← hal]
    exact hsz
  refine wpAny_pure ⟨_, rfl, .ref h'.objs.size, upd H h'.objs.size (.lst ((out.map SrtO.iv).map V.int)), I1.laid (t' := tk) (fun b u e => ?_) (Nat.le_refl _) ⟨hlen, out, e', vals_of_ints k1, he'⟩, rfl, q _ _ k2 k3 (I1.hok.fresh (Nat.le_refl _))⟩
  show (PyProof.Rows.sortedHeap _ _ _ _).get? b = some u
  rw [PyProof.Rows.sortedHeap_old (Nat.ne_of_lt (Heap.lt_size e)) (Heap.lt_size (Heap.get?_push_of_some _ e))]
  exact Heap.get?_push_of_some _ e
end
end GK
end
section
set_option Elab.async false
set_option linter.all false
set_option maxRecDepth 100000
set_option maxHeartbeats 4000000
namespace GK
open PySem PySem.Spec PyProof.Rows L2
/-! ### what is owned of the heap: a finite sum of cells -/
structure Cells where
  f : Addr → HO → Nat
theorem Cells.ext {c d : Cells} (h : ∀ a o, c.f a o = d.f a o) : c = d := by
  cases c; cases d
  congr
  funext a o
  exact h a o
instance instAddCells : Add Cells := ⟨fun c d => ⟨fun a o => c.f a o + d.f a o⟩⟩
def nil : Cells := ⟨fun _ _ => 0⟩
theorem add_f (c d : Cells) (a : Addr) (o : HO) : (c + d).f a o = c.f a o + d.f a o := rfl
theorem cells_comm (c d : Cells) : c + d = d + c := Cells.ext fun a o => Nat.add_comm _ _
theorem cells_assoc (c d e : Cells) : c + d + e = c + (d + e) := Cells.ext fun a o => Nat.add_assoc _ _ _
theorem nil_add (c : Cells) : nil + c = c := Cells.ext fun a o => Nat.zero_add _
theorem add_nil (c : Cells) : c + nil = c := Cells.ext fun a o => Nat.add_zero _
theorem add_right_nil (c : Cells) : c + nil = c := add_nil c
instance instCommCells : Std.Commutative (α := Cells) (· + ·) := ⟨cells_comm⟩
instance instAssocCells : Std.Associative (α := Cells) (· + ·) := ⟨cells_assoc⟩
open Classical in
noncomputable def cel (p : Addr) (o : HO) : Cells := ⟨fun a u => if a = p ∧ u = o then 1 else 0⟩
theorem cel_same (p : Addr) (o : HO) : (cel p o).f p o = 1 := if_pos ⟨rfl, rfl⟩
theorem cel_pos {p a : Addr} {o u : HO} (h : 0 < (cel p o).f a u) : a = p ∧ u = o := by
  unfold cel at h
  by_cases e : a = p ∧ u = o
  · exact e
  · simp only [if_neg e] at h
    exact absurd h (by decide)
theorem cel_le (p a : Addr) (o u : HO) : (cel p o).f a u ≤ 1 := by
  by_cases e : a = p ∧ u = o
  · obtain ⟨rfl, rfl⟩ := e
    exact Nat.le_of_eq (cel_same _ _)
  · exact Nat.le_trans (Nat.le_of_eq (if_neg e)) (Nat.zero_le 1)
theorem cel_ne {p a : Addr} {o u : HO} (h : ¬ (a = p ∧ u = o)) : (cel p o).f a u = 0 := if_neg h
def Owns (H : Hp) (c : Cells) : Prop := ∀ a o, c.f a o ≤ 1 ∧ (0 < c.f a o → H a = some o)
section
variable {H : Hp} {c d e : Cells} {p q : Addr} {o u o' : HO}
theorem Owns.eq (h : Owns H c) (x : c = d) : Owns H d := x ▸ h
theorem Owns.l (h : Owns H (c + d)) : Owns H c := fun a o => by
  obtain ⟨h1, h2⟩ := h a o
  rw [add_f] at h1 h2
  exact ⟨by omega, fun z => h2 (by omega)⟩
theorem Owns.r (h : Owns H (c + d)) : Owns H d := (h.eq (cells_comm c d)).l
theorem Owns.get0 (h : Owns H (cel p o)) : H p = some o := (h p o).2 (by rw [cel_same]; decide)
theorem Owns.get (h : Owns H (cel p o + c)) : H p = some o := h.l.get0
theorem Owns.sub (h : Owns H c) (x : c = d + e) : Owns H d := (h.eq x).l
/-- a cell takes another object -/
theorem Owns.put (h : Owns H (cel p o + c)) : Owns (upd H p o') (cel p o' + c) := fun a v => by
  have hp := h.get
  obtain ⟨h1, h2⟩ := h a v
  rw [add_f] at h1 h2
  rw [add_f]
  by_cases ha : a = p
  · subst ha
    have z : c.f a v = 0 := by
      rcases Nat.eq_zero_or_pos (c.f a v) with z | z
      · exact z
      · have e1 := h2 (by omega)
        rw [hp] at e1
        cases e1
        rw [cel_same] at h1
        omega
    rw [z, Nat.add_zero]
    exact ⟨cel_le _ _ _ _, fun w => by rw [(cel_pos w).2]; exact upd_same⟩
  · have n1 : (cel p o).f a v = 0 := cel_ne fun w => ha w.1
    have n2 : (cel p o').f a v = 0 := cel_ne fun w => ha w.1
    rw [n1, Nat.zero_add] at h1 h2
    rw [n2, Nat.zero_add]
    exact ⟨h1, fun w => by rw [upd_ne ha]; exact h2 w⟩
/-- a new cell -/
theorem Owns.new (h : Owns H c) (hp : H p = none) : Owns (upd H p o) (cel p o + c) := fun a v => by
  obtain ⟨h1, h2⟩ := h a v
  rw [add_f]
  by_cases ha : a = p
  · subst ha
    have z : c.f a v = 0 := by
      rcases Nat.eq_zero_or_pos (c.f a v) with z | z
      · exact z
      · rw [h2 z] at hp
        cases hp
    rw [z, Nat.add_zero]
    exact ⟨cel_le _ _ _ _, fun w => by rw [(cel_pos w).2]; exact upd_same⟩
  · have n2 : (cel p o).f a v = 0 := cel_ne fun w => ha w.1
    rw [n2, Nat.zero_add]
    exact ⟨h1, fun w => by rw [upd_ne ha]; exact h2 w⟩
/-- a new object that nobody asks for -/
theorem Owns.skip (h : Owns H c) (hp : H p = none) : Owns (upd H p o) c := (h.new hp).r
theorem Owns.new' (h : Owns H c) (hp : H p = none) (x : cel p o + c = d) : Owns (upd H p o) d := x ▸ h.new hp
theorem Owns.ne (h : Owns H (cel p o + (cel q u + c))) : p ≠ q := fun e => by
  subst e
  have h1 := h.get
  have h2 := h.r.get
  rw [h1] at h2
  cases h2
  obtain ⟨h3, _⟩ := h p o
  rw [add_f, add_f, cel_same] at h3
  omega
theorem Owns.fresh (h : Owns H (cel p o + c)) (hq : H q = none) : p ≠ q := ne_of_none h.get hq
end
/-! ### the cell at an address, found in a sum -/
class Ex (c : Cells) (p : Addr) (o : outParam HO) (e : outParam Cells) : Prop where
  eq : c = cel p o + e
instance (priority := low) exOne (p : Addr) (o : HO) : Ex (cel p o) p o nil := ⟨(add_nil _).symm⟩
instance (priority := high) exHere (p : Addr) (o : HO) (e : Cells) : Ex (cel p o + e) p o e := ⟨rfl⟩
instance (priority := high) exLast (p : Addr) (o : HO) (e : Cells) : Ex (e + cel p o) p o e := ⟨cells_comm _ _⟩
instance exL (c d e : Cells) (p : Addr) (o : HO) [x : Ex c p o e] : Ex (c + d) p o (e + d) := ⟨by rw [x.eq, cells_assoc]⟩
instance exR (c d e : Cells) (p : Addr) (o : HO) [x : Ex d p o e] : Ex (c + d) p o (c + e) := ⟨by rw [x.eq]; ac_rfl⟩
section
variable {H : Hp} {c d e : Cells} {p q : Addr} {o u o' : HO}
/-- what stands at p -/
theorem Owns.rd (h : Owns H c) (p : Addr) [x : Ex c p o e] : H p = some o := (h.eq x.eq).get
/-- p takes another object -/
theorem Owns.up (h : Owns H c) (p : Addr) (o' : HO) [x : Ex c p o e] : Owns (upd H p o') (cel p o' + e) := (h.eq x.eq).put
/-- p ahead -/
theorem Owns.at_ (h : Owns H c) (p : Addr) [x : Ex c p o e] : Owns H (cel p o + e) := h.eq x.eq
theorem Owns.to (h : Owns H c) (x : c = d) : Owns H d := x ▸ h
end
/-- the same list stands in what is owned -/
theorem Owns.lst {K : PySem.W.Frag} {H : Hp} {p : Addr} {xs : List V} {c : Cells} (h : Owns H (cel p (.lst xs) + c)) : SqL K H p xs := SqL.of h.get
/-! ### sums of cells -/
def sumC {α : Type} (f : α → Cells) : List α → Cells
  | [] => nil
  | x :: l => f x + sumC f l
theorem sumC_append {α : Type} (f : α → Cells) : ∀ l m : List α, sumC f (l ++ m) = sumC f l + sumC f m
  | [], m => (nil_add _).symm
  | x :: l, m => by
    show f x + sumC f (l ++ m) = f x + sumC f l + sumC f m
    rw [sumC_append f l m, cells_assoc]
theorem sumC_congr {α : Type} {f g : α → Cells} : ∀ {l : List α}, (∀ x ∈ l, f x = g x) → sumC f l = sumC g l
  | [], _ => rfl
  | x :: l, h => by
    show f x + sumC f l = g x + sumC g l
    rw [h x List.mem_cons_self, sumC_congr fun y hy => h y (List.mem_cons_of_mem _ hy)]
theorem sumC_map {α β : Type} (f : β → Cells) (g : α → β) : ∀ l : List α, sumC f (l.map g) = sumC (fun x => f (g x)) l
  | [] => rfl
  | x :: l => by
    show f (g x) + sumC f (l.map g) = f (g x) + _
    rw [sumC_map f g l]
theorem sumC_mid {α : Type} (f : α → Cells) (l m : List α) (x : α) : sumC f (l ++ x :: m) = f x + sumC f (l ++ m) := by
  rw [sumC_append, sumC_append]
  show sumC f l + (f x + sumC f m) = f x + (sumC f l + sumC f m)
  ac_rfl
/-! ### an instance's attributes, by the list of their names -/
theorem lkz {ks : List Str} {k : Str} {i : Nat} (h : ks.findIdx? (· == k) = some i) (vs : List V) : (ks.zip vs).lookup k = vs[i]? := by
  induction ks generalizing vs i with
  | nil => simp at h
  | cons a ks ih =>
    cases vs with
    | nil => simp
    | cons v vs =>
      rw [List.findIdx?_cons] at h
      rw [List.zip_cons_cons, List.lookup_cons]
      by_cases e : (a == k) = true
      · rw [if_pos e] at h
        cases h
        rw [show (k == a) = true by rw [beq_iff_eq] at e ⊢; exact e.symm]
        rfl
      · rw [if_neg e] at h
        rw [show (k == a) = false by
          rw [Bool.eq_false_iff]
          intro q
          rw [beq_iff_eq] at q
          exact e (by rw [beq_iff_eq]; exact q.symm)]
        obtain ⟨j, hj, rfl⟩ := Option.map_eq_some_iff.mp h
        rw [List.getElem?_cons_succ]
        exact ih hj vs
theorem lkn {ks : List Str} {k : Str} (h : ks.findIdx? (· == k) = none) (vs : List V) : (ks.zip vs).lookup k = none := by
  induction ks generalizing vs with
  | nil => rfl
  | cons a ks ih =>
    cases vs with
    | nil => rfl
    | cons v vs =>
      rw [List.findIdx?_cons] at h
      rw [List.zip_cons_cons, List.lookup_cons]
      by_cases e : (a == k) = true
      · rw [if_pos e] at h
        cases h
      · rw [if_neg e] at h
        rw [show (k == a) = false by
          rw [Bool.eq_false_iff]
          intro q
          rw [beq_iff_eq] at q
          exact e (by rw [beq_iff_eq]; exact q.symm)]
        exact ih (Option.map_eq_none_iff.mp h) vs
theorem ptz {ks : List Str} {k : Str} {i : Nat} (h : ks.findIdx? (· == k) = some i) (x : V) (vs : List V) (hl : i < vs.length) : putF k x (ks.zip vs) = ks.zip (vs.set i x) := by
  induction ks generalizing vs i with
  | nil => simp at h
  | cons a ks ih =>
    cases vs with
    | nil => exact absurd hl (by simp)
    | cons v vs =>
      rw [List.findIdx?_cons] at h
      rw [List.zip_cons_cons]
      by_cases e : (a == k) = true
      · rw [if_pos e] at h
        cases h
        show (if a = k then (a, x) :: ks.zip vs else (a, v) :: putF k x (ks.zip vs)) = _
        rw [beq_iff_eq] at e
        subst e
        rw [if_pos rfl]
        rfl
      · rw [if_neg e] at h
        obtain ⟨j, hj, rfl⟩ := Option.map_eq_some_iff.mp h
        show (if a = k then (a, x) :: ks.zip vs else (a, v) :: putF k x (ks.zip vs)) = _
        rw [if_neg (by intro q; exact e (by rw [beq_iff_eq]; exact q))]
        rw [ih hj vs (by simpa using hl)]
        rfl
/-- one attribute more -/
theorem pta {ks : List Str} {k : Str} (h : ks.findIdx? (· == k) = none) (x : V) (vs : List V) (hl : vs.length = ks.length) : putF k x (ks.zip vs) = (ks ++ [k]).zip (vs ++ [x]) := by
  induction ks generalizing vs with
  | nil =>
    cases vs with
    | nil => rfl
    | cons _ _ => simp at hl
  | cons a ks ih =>
    cases vs with
    | nil => simp at hl
    | cons v vs =>
      rw [List.findIdx?_cons] at h
      by_cases e : (a == k) = true
      · rw [if_pos e] at h
        cases h
      · rw [if_neg e] at h
        rw [List.zip_cons_cons]
        show (if a = k then (a, x) :: ks.zip vs else (a, v) :: putF k x (ks.zip vs)) = _
        rw [if_neg (by intro q; exact e (by rw [beq_iff_eq]; exact q)), ih (Option.map_eq_none_iff.mp h) vs (by simpa using hl)]
        rfl
theorem lnz {ks : List Str} (h : ks.length < 1000) (vs : List V) : (ks.zip vs).length < 1000 := by
  rw [List.length_zip]
  omega
/-- an attribute stored -/
theorem Owns.upF {H : Hp} {c e : Cells} {C dx : Addr} {ks : List Str} {vs : List V} {f : Str} {i : Nat} (h : Owns H c) (a : Addr) [y : Ex c a (.ins C dx (ks.zip vs)) e] (hi : ks.findIdx? (· == f) = some i) (x : V) (hl : Nat.ble (i + 1) vs.length = true := by rfl) :
    Owns (upd H a (.ins C dx (putF f x (ks.zip vs)))) (cel a (.ins C dx (ks.zip (vs.set i x))) + e) := by
  rw [ptz hi x vs (Nat.le_of_ble_eq_true hl)]
  exact h.up a _
end GK
end
section
set_option Elab.async false
set_option linter.all false
set_option maxRecDepth 100000
set_option maxHeartbeats 0
namespace GK
open PySem PySem.Spec PyProof.Rows L2
/-! ### the text by places -/
def top (i : Nat) : Stmt := PySem.Challenge.pw_guardedkeep_s01_answers.main.body.getD i (.Pass ⟨0, 0, 0, 0⟩)
abbrev s_Asks_init : Stmt := inClass (top 5) 0
abbrev s_Asks_answer : Stmt := inClass (top 5) 1
abbrev s_Asks_more : Stmt := inClass (top 5) 2
abbrev s_Asks_less : Stmt := inClass (top 5) 3
abbrev s_Asks_tell : Stmt := inClass (top 5) 4
abbrev s_Asks_row : Stmt := inClass (top 5) 5
abbrev s_Pages_init : Stmt := inClass (top 11) 0
abbrev s_Pages_count_of : Stmt := inClass (top 11) 1
abbrev s_Pages_owned : Stmt := inClass (top 11) 2
abbrev s_Pages_set_marks : Stmt := inClass (top 11) 3
abbrev s_Pages_own_rows : Stmt := inClass (top 11) 4
abbrev s_Pages_free_place : Stmt := inClass (top 11) 5
abbrev s_Pages_highest_free : Stmt := inClass (top 11) 6
abbrev s_Pages_trim : Stmt := inClass (top 11) 7
abbrev s_Pages_may_come : Stmt := inClass (top 11) 8
abbrev s_Pages_ask : Stmt := inClass (top 11) 9
abbrev s_Pages_place_for : Stmt := inClass (top 11) 10
abbrev s_Pages_take : Stmt := inClass (top 11) 11
abbrev s_Pages_give : Stmt := inClass (top 11) 12
abbrev s_Pages_give_back : Stmt := inClass (top 11) 13
abbrev s_Pages_sums : Stmt := inClass (top 11) 14
abbrev s_small_sizes : Stmt := top 17
abbrev s_size_for : Stmt := top 18
abbrev s_run_pages : Stmt := top 19
abbrev s_rest_of : Stmt := top 20
abbrev s_pages_of : Stmt := top 21
abbrev s_Run_init : Stmt := inClass (top 22) 0
abbrev s_Run_has_free : Stmt := inClass (top 22) 1
abbrev s_Run_is_empty : Stmt := inClass (top 22) 2
abbrev s_Run_place_at : Stmt := inClass (top 22) 3
abbrev s_Run_number_at : Stmt := inClass (top 22) 4
abbrev s_Block_init : Stmt := inClass (top 23) 0
abbrev s_Block_room : Stmt := inClass (top 23) 1
abbrev s_Blocks_init : Stmt := inClass (top 24) 0
abbrev s_Blocks_runs_with_room : Stmt := inClass (top 24) 1
abbrev s_Blocks_run_for : Stmt := inClass (top 24) 2
abbrev s_Blocks_take_small : Stmt := inClass (top 24) 3
abbrev s_Blocks_take_great : Stmt := inClass (top 24) 4
abbrev s_Blocks_take : Stmt := inClass (top 24) 5
abbrev s_Blocks_give : Stmt := inClass (top 24) 6
abbrev s_Blocks_run_bytes : Stmt := inClass (top 24) 7
abbrev s_Blocks_sums : Stmt := inClass (top 24) 8
abbrev s_guard_byte : Stmt := top 31
abbrev s_Piece_init : Stmt := inClass (top 32) 0
abbrev s_Piece_end : Stmt := inClass (top 32) 1
abbrev s_Piece_has : Stmt := inClass (top 32) 2
abbrev s_Piece_is_own : Stmt := inClass (top 32) 3
abbrev s_Piece_usual : Stmt := inClass (top 32) 4
abbrev s_Piece_byte : Stmt := inClass (top 32) 5
abbrev s_Piece_put : Stmt := inClass (top 32) 6
abbrev s_Piece_copy_from : Stmt := inClass (top 32) 7
abbrev s_Piece_hold : Stmt := inClass (top 32) 8
abbrev s_Piece_wrong_front : Stmt := inClass (top 32) 9
abbrev s_Piece_wrong_back : Stmt := inClass (top 32) 10
abbrev s_Piece_wrong_bytes : Stmt := inClass (top 32) 11
abbrev s_Piece_findings : Stmt := inClass (top 32) 12
abbrev s_Piece_put_right : Stmt := inClass (top 32) 13
abbrev s_Piece_state : Stmt := inClass (top 32) 14
abbrev s_is_from : Stmt := top 45
abbrev s_is_who : Stmt := top 46
abbrev s_is_place : Stmt := top 47
abbrev s_is_size : Stmt := top 48
abbrev s_is_begin : Stmt := top 49
abbrev s_front_of : Stmt := top 50
abbrev s_House_init : Stmt := inClass (top 51) 0
abbrev s_House_tell : Stmt := inClass (top 51) 1
abbrev s_House_living_at : Stmt := inClass (top 51) 2
abbrev s_House_piece_at : Stmt := inClass (top 51) 3
abbrev s_House_piece_with : Stmt := inClass (top 51) 4
abbrev s_House_look_at : Stmt := inClass (top 51) 5
abbrev s_House_held_sizes : Stmt := inClass (top 51) 6
abbrev s_House_let_go : Stmt := inClass (top 51) 7
abbrev s_House_new_piece : Stmt := inClass (top 51) 8
abbrev s_House_take : Stmt := inClass (top 51) 9
abbrev s_House_give_up : Stmt := inClass (top 51) 10
abbrev s_House_no_piece : Stmt := inClass (top 51) 11
abbrev s_House_give : Stmt := inClass (top 51) 12
abbrev s_House_resize : Stmt := inClass (top 51) 13
abbrev s_House_write : Stmt := inClass (top 51) 14
abbrev s_House_read : Stmt := inClass (top 51) 15
abbrev s_House_look : Stmt := inClass (top 51) 16
abbrev s_House_let : Stmt := inClass (top 51) 17
abbrev s_House_living : Stmt := inClass (top 51) 18
abbrev s_House_left : Stmt := inClass (top 51) 19
abbrev s_House_told : Stmt := inClass (top 51) 20
abbrev s_House_whose : Stmt := inClass (top 51) 21
abbrev s_House_listed : Stmt := inClass (top 51) 22
abbrev s_House_sums : Stmt := inClass (top 51) 23
abbrev s_changing : Stmt := top 52
abbrev s_plain : Stmt := top 53
abbrev s_begun : Stmt := top 54
abbrev s_row_at : Stmt := top 55
abbrev s_answers : Stmt := top 56
abbrev FnP (K : PySem.W.Frag) (x q : Str) (st : Stmt) (f : Addr) (fd : FuncData) : Prop := FunD K x q (defArgs st) (defBody st) (defScope st) [] [] f fd
/-! ### facts of the top, by names -/
def d_Asks_init : He.DefD := ⟨("Asks", some "__init__"), "__init__", "Asks.__init__", defArgs s_Asks_init, defBody s_Asks_init, defScope s_Asks_init, [], []⟩
def d_Asks_answer : He.DefD := ⟨("Asks", some "answer"), "answer", "Asks.answer", defArgs s_Asks_answer, defBody s_Asks_answer, defScope s_Asks_answer, [], []⟩
def d_Asks_more : He.DefD := ⟨("Asks", some "more"), "more", "Asks.more", defArgs s_Asks_more, defBody s_Asks_more, defScope s_Asks_more, [], []⟩
def d_Asks_less : He.DefD := ⟨("Asks", some "less"), "less", "Asks.less", defArgs s_Asks_less, defBody s_Asks_less, defScope s_Asks_less, [], []⟩
def d_Asks_tell : He.DefD := ⟨("Asks", some "tell"), "tell", "Asks.tell", defArgs s_Asks_tell, defBody s_Asks_tell, defScope s_Asks_tell, [], []⟩
def d_Asks_row : He.DefD := ⟨("Asks", some "row"), "row", "Asks.row", defArgs s_Asks_row, defBody s_Asks_row, defScope s_Asks_row, [], []⟩
def d_Pages_init : He.DefD := ⟨("Pages", some "__init__"), "__init__", "Pages.__init__", defArgs s_Pages_init, defBody s_Pages_init, defScope s_Pages_init, [], []⟩
def d_Pages_count_of : He.DefD := ⟨("Pages", some "count_of"), "count_of", "Pages.count_of", defArgs s_Pages_count_of, defBody s_Pages_count_of, defScope s_Pages_count_of, [], []⟩
def d_Pages_owned : He.DefD := ⟨("Pages", some "owned"), "owned", "Pages.owned", defArgs s_Pages_owned, defBody s_Pages_owned, defScope s_Pages_owned, [], []⟩
def d_Pages_set_marks : He.DefD := ⟨("Pages", some "set_marks"), "set_marks", "Pages.set_marks", defArgs s_Pages_set_marks, defBody s_Pages_set_marks, defScope s_Pages_set_marks, [], []⟩
def d_Pages_own_rows : He.DefD := ⟨("Pages", some "own_rows"), "own_rows", "Pages.own_rows", defArgs s_Pages_own_rows, defBody s_Pages_own_rows, defScope s_Pages_own_rows, [], []⟩
def d_Pages_free_place : He.DefD := ⟨("Pages", some "free_place"), "free_place", "Pages.free_place", defArgs s_Pages_free_place, defBody s_Pages_free_place, defScope s_Pages_free_place, [], []⟩
def d_Pages_highest_free : He.DefD := ⟨("Pages", some "highest_free"), "highest_free", "Pages.highest_free", defArgs s_Pages_highest_free, defBody s_Pages_highest_free, defScope s_Pages_highest_free, [], []⟩
def d_Pages_trim : He.DefD := ⟨("Pages", some "trim"), "trim", "Pages.trim", defArgs s_Pages_trim, defBody s_Pages_trim, defScope s_Pages_trim, [], []⟩
def d_Pages_may_come : He.DefD := ⟨("Pages", some "may_come"), "may_come", "Pages.may_come", defArgs s_Pages_may_come, defBody s_Pages_may_come, defScope s_Pages_may_come, [], []⟩
def d_Pages_ask : He.DefD := ⟨("Pages", some "ask"), "ask", "Pages.ask", defArgs s_Pages_ask, defBody s_Pages_ask, defScope s_Pages_ask, [], []⟩
def d_Pages_place_for : He.DefD := ⟨("Pages", some "place_for"), "place_for", "Pages.place_for", defArgs s_Pages_place_for, defBody s_Pages_place_for, defScope s_Pages_place_for, [], []⟩
def d_Pages_take : He.DefD := ⟨("Pages", some "take"), "take", "Pages.take", defArgs s_Pages_take, defBody s_Pages_take, defScope s_Pages_take, [], []⟩
def d_Pages_give : He.DefD := ⟨("Pages", some "give"), "give", "Pages.give", defArgs s_Pages_give, defBody s_Pages_give, defScope s_Pages_give, [], []⟩
def d_Pages_give_back : He.DefD := ⟨("Pages", some "give_back"), "give_back", "Pages.give_back", defArgs s_Pages_give_back, defBody s_Pages_give_back, defScope s_Pages_give_back, [], []⟩
def d_Pages_sums : He.DefD := ⟨("Pages", some "sums"), "sums", "Pages.sums", defArgs s_Pages_sums, defBody s_Pages_sums, defScope s_Pages_sums, [], []⟩
def d_small_sizes : He.DefD := ⟨("small_sizes", none), "small_sizes", "small_sizes", defArgs s_small_sizes, defBody s_small_sizes, defScope s_small_sizes, [], []⟩
def d_size_for : He.DefD := ⟨("size_for", none), "size_for", "size_for", defArgs s_size_for, defBody s_size_for, defScope s_size_for, [], []⟩
def d_run_pages : He.DefD := ⟨("run_pages", none), "run_pages", "run_pages", defArgs s_run_pages, defBody s_run_pages, defScope s_run_pages, [], []⟩
def d_rest_of : He.DefD := ⟨("rest_of", none), "rest_of", "rest_of", defArgs s_rest_of, defBody s_rest_of, defScope s_rest_of, [], []⟩
def d_pages_of : He.DefD := ⟨("pages_of", none), "pages_of", "pages_of", defArgs s_pages_of, defBody s_pages_of, defScope s_pages_of, [], []⟩
def d_Run_init : He.DefD := ⟨("Run", some "__init__"), "__init__", "Run.__init__", defArgs s_Run_init, defBody s_Run_init, defScope s_Run_init, [], []⟩
def d_Run_has_free : He.DefD := ⟨("Run", some "has_free"), "has_free", "Run.has_free", defArgs s_Run_has_free, defBody s_Run_has_free, defScope s_Run_has_free, [], []⟩
def d_Run_is_empty : He.DefD := ⟨("Run", some "is_empty"), "is_empty", "Run.is_empty", defArgs s_Run_is_empty, defBody s_Run_is_empty, defScope s_Run_is_empty, [], []⟩
def d_Run_place_at : He.DefD := ⟨("Run", some "place_at"), "place_at", "Run.place_at", defArgs s_Run_place_at, defBody s_Run_place_at, defScope s_Run_place_at, [], []⟩
def d_Run_number_at : He.DefD := ⟨("Run", some "number_at"), "number_at", "Run.number_at", defArgs s_Run_number_at, defBody s_Run_number_at, defScope s_Run_number_at, [], []⟩
def d_Block_init : He.DefD := ⟨("Block", some "__init__"), "__init__", "Block.__init__", defArgs s_Block_init, defBody s_Block_init, defScope s_Block_init, [], []⟩
def d_Block_room : He.DefD := ⟨("Block", some "room"), "room", "Block.room", defArgs s_Block_room, defBody s_Block_room, defScope s_Block_room, [], []⟩
def d_Blocks_init : He.DefD := ⟨("Blocks", some "__init__"), "__init__", "Blocks.__init__", defArgs s_Blocks_init, defBody s_Blocks_init, defScope s_Blocks_init, [], []⟩
def d_Blocks_runs_with_room : He.DefD := ⟨("Blocks", some "runs_with_room"), "runs_with_room", "Blocks.runs_with_room", defArgs s_Blocks_runs_with_room, defBody s_Blocks_runs_with_room, defScope s_Blocks_runs_with_room, [], []⟩
def d_Blocks_run_for : He.DefD := ⟨("Blocks", some "run_for"), "run_for", "Blocks.run_for", defArgs s_Blocks_run_for, defBody s_Blocks_run_for, defScope s_Blocks_run_for, [], []⟩
def d_Blocks_take_small : He.DefD := ⟨("Blocks", some "take_small"), "take_small", "Blocks.take_small", defArgs s_Blocks_take_small, defBody s_Blocks_take_small, defScope s_Blocks_take_small, [], []⟩
def d_Blocks_take_great : He.DefD := ⟨("Blocks", some "take_great"), "take_great", "Blocks.take_great", defArgs s_Blocks_take_great, defBody s_Blocks_take_great, defScope s_Blocks_take_great, [], []⟩
def d_Blocks_take : He.DefD := ⟨("Blocks", some "take"), "take", "Blocks.take", defArgs s_Blocks_take, defBody s_Blocks_take, defScope s_Blocks_take, [], []⟩
def d_Blocks_give : He.DefD := ⟨("Blocks", some "give"), "give", "Blocks.give", defArgs s_Blocks_give, defBody s_Blocks_give, defScope s_Blocks_give, [], []⟩
def d_Blocks_run_bytes : He.DefD := ⟨("Blocks", some "run_bytes"), "run_bytes", "Blocks.run_bytes", defArgs s_Blocks_run_bytes, defBody s_Blocks_run_bytes, defScope s_Blocks_run_bytes, [], []⟩
def d_Blocks_sums : He.DefD := ⟨("Blocks", some "sums"), "sums", "Blocks.sums", defArgs s_Blocks_sums, defBody s_Blocks_sums, defScope s_Blocks_sums, [], []⟩
def d_guard_byte : He.DefD := ⟨("guard_byte", none), "guard_byte", "guard_byte", defArgs s_guard_byte, defBody s_guard_byte, defScope s_guard_byte, [], []⟩
def d_Piece_init : He.DefD := ⟨("Piece", some "__init__"), "__init__", "Piece.__init__", defArgs s_Piece_init, defBody s_Piece_init, defScope s_Piece_init, [], []⟩
def d_Piece_end : He.DefD := ⟨("Piece", some "end"), "end", "Piece.end", defArgs s_Piece_end, defBody s_Piece_end, defScope s_Piece_end, [], []⟩
def d_Piece_has : He.DefD := ⟨("Piece", some "has"), "has", "Piece.has", defArgs s_Piece_has, defBody s_Piece_has, defScope s_Piece_has, [], []⟩
def d_Piece_is_own : He.DefD := ⟨("Piece", some "is_own"), "is_own", "Piece.is_own", defArgs s_Piece_is_own, defBody s_Piece_is_own, defScope s_Piece_is_own, [], []⟩
def d_Piece_usual : He.DefD := ⟨("Piece", some "usual"), "usual", "Piece.usual", defArgs s_Piece_usual, defBody s_Piece_usual, defScope s_Piece_usual, [], []⟩
def d_Piece_byte : He.DefD := ⟨("Piece", some "byte"), "byte", "Piece.byte", defArgs s_Piece_byte, defBody s_Piece_byte, defScope s_Piece_byte, [], []⟩
def d_Piece_put : He.DefD := ⟨("Piece", some "put"), "put", "Piece.put", defArgs s_Piece_put, defBody s_Piece_put, defScope s_Piece_put, [], []⟩
def d_Piece_copy_from : He.DefD := ⟨("Piece", some "copy_from"), "copy_from", "Piece.copy_from", defArgs s_Piece_copy_from, defBody s_Piece_copy_from, defScope s_Piece_copy_from, [], []⟩
def d_Piece_hold : He.DefD := ⟨("Piece", some "hold"), "hold", "Piece.hold", defArgs s_Piece_hold, defBody s_Piece_hold, defScope s_Piece_hold, [], []⟩
def d_Piece_wrong_front : He.DefD := ⟨("Piece", some "wrong_front"), "wrong_front", "Piece.wrong_front", defArgs s_Piece_wrong_front, defBody s_Piece_wrong_front, defScope s_Piece_wrong_front, [], []⟩
def d_Piece_wrong_back : He.DefD := ⟨("Piece", some "wrong_back"), "wrong_back", "Piece.wrong_back", defArgs s_Piece_wrong_back, defBody s_Piece_wrong_back, defScope s_Piece_wrong_back, [], []⟩
def d_Piece_wrong_bytes : He.DefD := ⟨("Piece", some "wrong_bytes"), "wrong_bytes", "Piece.wrong_bytes", defArgs s_Piece_wrong_bytes, defBody s_Piece_wrong_bytes, defScope s_Piece_wrong_bytes, [], []⟩
def d_Piece_findings : He.DefD := ⟨("Piece", some "findings"), "findings", "Piece.findings", defArgs s_Piece_findings, defBody s_Piece_findings, defScope s_Piece_findings, [], []⟩
def d_Piece_put_right : He.DefD := ⟨("Piece", some "put_right"), "put_right", "Piece.put_right", defArgs s_Piece_put_right, defBody s_Piece_put_right, defScope s_Piece_put_right, [], []⟩
def d_Piece_state : He.DefD := ⟨("Piece", some "state"), "state", "Piece.state", defArgs s_Piece_state, defBody s_Piece_state, defScope s_Piece_state, [], []⟩
def d_is_from : He.DefD := ⟨("is_from", none), "is_from", "is_from", defArgs s_is_from, defBody s_is_from, defScope s_is_from, [], []⟩
def d_is_who : He.DefD := ⟨("is_who", none), "is_who", "is_who", defArgs s_is_who, defBody s_is_who, defScope s_is_who, [], []⟩
def d_is_place : He.DefD := ⟨("is_place", none), "is_place", "is_place", defArgs s_is_place, defBody s_is_place, defScope s_is_place, [], []⟩
def d_is_size : He.DefD := ⟨("is_size", none), "is_size", "is_size", defArgs s_is_size, defBody s_is_size, defScope s_is_size, [], []⟩
def d_is_begin : He.DefD := ⟨("is_begin", none), "is_begin", "is_begin", defArgs s_is_begin, defBody s_is_begin, defScope s_is_begin, [], []⟩
def d_front_of : He.DefD := ⟨("front_of", none), "front_of", "front_of", defArgs s_front_of, defBody s_front_of, defScope s_front_of, [], []⟩
def d_House_init : He.DefD := ⟨("House", some "__init__"), "__init__", "House.__init__", defArgs s_House_init, defBody s_House_init, defScope s_House_init, [], []⟩
def d_House_tell : He.DefD := ⟨("House", some "tell"), "tell", "House.tell", defArgs s_House_tell, defBody s_House_tell, defScope s_House_tell, [], []⟩
def d_House_living_at : He.DefD := ⟨("House", some "living_at"), "living_at", "House.living_at", defArgs s_House_living_at, defBody s_House_living_at, defScope s_House_living_at, [], []⟩
def d_House_piece_at : He.DefD := ⟨("House", some "piece_at"), "piece_at", "House.piece_at", defArgs s_House_piece_at, defBody s_House_piece_at, defScope s_House_piece_at, [], []⟩
def d_House_piece_with : He.DefD := ⟨("House", some "piece_with"), "piece_with", "House.piece_with", defArgs s_House_piece_with, defBody s_House_piece_with, defScope s_House_piece_with, [], []⟩
def d_House_look_at : He.DefD := ⟨("House", some "look_at"), "look_at", "House.look_at", defArgs s_House_look_at, defBody s_House_look_at, defScope s_House_look_at, [], []⟩
def d_House_held_sizes : He.DefD := ⟨("House", some "held_sizes"), "held_sizes", "House.held_sizes", defArgs s_House_held_sizes, defBody s_House_held_sizes, defScope s_House_held_sizes, [], []⟩
def d_House_let_go : He.DefD := ⟨("House", some "let_go"), "let_go", "House.let_go", defArgs s_House_let_go, defBody s_House_let_go, defScope s_House_let_go, [], []⟩
def d_House_new_piece : He.DefD := ⟨("House", some "new_piece"), "new_piece", "House.new_piece", defArgs s_House_new_piece, defBody s_House_new_piece, defScope s_House_new_piece, [], []⟩
def d_House_take : He.DefD := ⟨("House", some "take"), "take", "House.take", defArgs s_House_take, defBody s_House_take, defScope s_House_take, [], []⟩
def d_House_give_up : He.DefD := ⟨("House", some "give_up"), "give_up", "House.give_up", defArgs s_House_give_up, defBody s_House_give_up, defScope s_House_give_up, [], []⟩
def d_House_no_piece : He.DefD := ⟨("House", some "no_piece"), "no_piece", "House.no_piece", defArgs s_House_no_piece, defBody s_House_no_piece, defScope s_House_no_piece, [], []⟩
def d_House_give : He.DefD := ⟨("House", some "give"), "give", "House.give", defArgs s_House_give, defBody s_House_give, defScope s_House_give, [], []⟩
def d_House_resize : He.DefD := ⟨("House", some "resize"), "resize", "House.resize", defArgs s_House_resize, defBody s_House_resize, defScope s_House_resize, [], []⟩
def d_House_write : He.DefD := ⟨("House", some "write"), "write", "House.write", defArgs s_House_write, defBody s_House_write, defScope s_House_write, [], []⟩
def d_House_read : He.DefD := ⟨("House", some "read"), "read", "House.read", defArgs s_House_read, defBody s_House_read, defScope s_House_read, [], []⟩
def d_House_look : He.DefD := ⟨("House", some "look"), "look", "House.look", defArgs s_House_look, defBody s_House_look, defScope s_House_look, [], []⟩
def d_House_let : He.DefD := ⟨("House", some "let"), "let", "House.let", defArgs s_House_let, defBody s_House_let, defScope s_House_let, [], []⟩
def d_House_living : He.DefD := ⟨("House", some "living"), "living", "House.living", defArgs s_House_living, defBody s_House_living, defScope s_House_living, [], []⟩
def d_House_left : He.DefD := ⟨("House", some "left"), "left", "House.left", defArgs s_House_left, defBody s_House_left, defScope s_House_left, [], []⟩
def d_House_told : He.DefD := ⟨("House", some "told"), "told", "House.told", defArgs s_House_told, defBody s_House_told, defScope s_House_told, [], []⟩
def d_House_whose : He.DefD := ⟨("House", some "whose"), "whose", "House.whose", defArgs s_House_whose, defBody s_House_whose, defScope s_House_whose, [], []⟩
def d_House_listed : He.DefD := ⟨("House", some "listed"), "listed", "House.listed", defArgs s_House_listed, defBody s_House_listed, defScope s_House_listed, [], []⟩
def d_House_sums : He.DefD := ⟨("House", some "sums"), "sums", "House.sums", defArgs s_House_sums, defBody s_House_sums, defScope s_House_sums, [], []⟩
def d_changing : He.DefD := ⟨("changing", none), "changing", "changing", defArgs s_changing, defBody s_changing, defScope s_changing, [], []⟩
def d_plain : He.DefD := ⟨("plain", none), "plain", "plain", defArgs s_plain, defBody s_plain, defScope s_plain, [], []⟩
def d_begun : He.DefD := ⟨("begun", none), "begun", "begun", defArgs s_begun, defBody s_begun, defScope s_begun, [], []⟩
def d_row_at : He.DefD := ⟨("row_at", none), "row_at", "row_at", defArgs s_row_at, defBody s_row_at, defScope s_row_at, [], []⟩
def d_answers : He.DefD := ⟨("answers", none), "answers", "answers", defArgs s_answers, defBody s_answers, defScope s_answers, [], []⟩
def fn0 : List He.DefD := [d_Asks_init, d_Asks_answer, d_Asks_more, d_Asks_less, d_Asks_tell, d_Asks_row, d_Pages_init, d_Pages_count_of, d_Pages_owned, d_Pages_set_marks, d_Pages_own_rows, d_Pages_free_place, d_Pages_highest_free, d_Pages_trim, d_Pages_may_come, d_Pages_ask, d_Pages_place_for, d_Pages_take, d_Pages_give, d_Pages_give_back, d_Pages_sums, d_small_sizes, d_size_for, d_run_pages, d_rest_of, d_pages_of, d_Run_init, d_Run_has_free, d_Run_is_empty, d_Run_place_at]
def fn1 : List He.DefD := [d_Run_number_at, d_Block_init, d_Block_room, d_Blocks_init, d_Blocks_runs_with_room, d_Blocks_run_for, d_Blocks_take_small, d_Blocks_take_great, d_Blocks_take, d_Blocks_give, d_Blocks_run_bytes, d_Blocks_sums, d_guard_byte, d_Piece_init, d_Piece_end, d_Piece_has, d_Piece_is_own, d_Piece_usual, d_Piece_byte, d_Piece_put, d_Piece_copy_from, d_Piece_hold, d_Piece_wrong_front, d_Piece_wrong_back, d_Piece_wrong_bytes, d_Piece_findings, d_Piece_put_right, d_Piece_state, d_is_from, d_is_who]
def fn2 : List He.DefD := [d_is_place, d_is_size, d_is_begin, d_front_of, d_House_init, d_House_tell, d_House_living_at, d_House_piece_at, d_House_piece_with, d_House_look_at, d_House_held_sizes, d_House_let_go, d_House_new_piece, d_House_take, d_House_give_up, d_House_no_piece, d_House_give, d_House_resize, d_House_write, d_House_read, d_House_look, d_House_let, d_House_living, d_House_left, d_House_told, d_House_whose, d_House_listed, d_House_sums, d_changing, d_plain]
def fn3 : List He.DefD := [d_begun, d_row_at, d_answers]
def fn : List He.DefD := fn0 ++ fn1 ++ fn2 ++ fn3
def fa0 : List He.Fa := [.meth "Asks" "__init__", .meth "Asks" "answer", .meth "Asks" "more", .meth "Asks" "less", .meth "Asks" "tell", .meth "Asks" "row", .meth "Pages" "__init__", .meth "Pages" "count_of", .meth "Pages" "owned", .meth "Pages" "set_marks", .meth "Pages" "own_rows", .meth "Pages" "free_place", .meth "Pages" "highest_free", .meth "Pages" "trim", .meth "Pages" "may_come", .meth "Pages" "ask", .meth "Pages" "place_for", .meth "Pages" "take", .meth "Pages" "give", .meth "Pages" "give_back", .meth "Pages" "sums", .glo "small_sizes", .glo "size_for", .glo "run_pages", .glo "rest_of", .glo "pages_of", .meth "Run" "__init__", .meth "Run" "has_free", .meth "Run" "is_empty", .meth "Run" "place_at"]
def fa1 : List He.Fa := [.meth "Run" "number_at", .meth "Block" "__init__", .meth "Block" "room", .meth "Blocks" "__init__", .meth "Blocks" "runs_with_room", .meth "Blocks" "run_for", .meth "Blocks" "take_small", .meth "Blocks" "take_great", .meth "Blocks" "take", .meth "Blocks" "give", .meth "Blocks" "run_bytes", .meth "Blocks" "sums", .glo "guard_byte", .meth "Piece" "__init__", .meth "Piece" "end", .meth "Piece" "has", .meth "Piece" "is_own", .meth "Piece" "usual", .meth "Piece" "byte", .meth "Piece" "put", .meth "Piece" "copy_from", .meth "Piece" "hold", .meth "Piece" "wrong_front", .meth "Piece" "wrong_back", .meth "Piece" "wrong_bytes", .meth "Piece" "findings", .meth "Piece" "put_right", .meth "Piece" "state", .glo "is_from", .glo "is_who"]
def fa2 : List He.Fa := [.glo "is_place", .glo "is_size", .glo "is_begin", .glo "front_of", .meth "House" "__init__", .meth "House" "tell", .meth "House" "living_at", .meth "House" "piece_at", .meth "House" "piece_with", .meth "House" "look_at", .meth "House" "held_sizes", .meth "House" "let_go", .meth "House" "new_piece", .meth "House" "take", .meth "House" "give_up", .meth "House" "no_piece", .meth "House" "give", .meth "House" "resize", .meth "House" "write", .meth "House" "read", .meth "House" "look", .meth "House" "let", .meth "House" "living", .meth "House" "left", .meth "House" "told", .meth "House" "whose", .meth "House" "listed", .meth "House" "sums", .glo "changing", .glo "plain"]
def fa3 : List He.Fa := [.glo "begun", .glo "row_at", .glo "answers", .glo "Asks", .cls "Asks", .mkr "Asks", .noat "Asks" "answers", .noat "Asks" "asked", .glo "Pages", .cls "Pages", .mkr "Pages", .noat "Pages" "chunk", .noat "Pages" "spare", .noat "Pages" "marks", .noat "Pages" "runs", .noat "Pages" "asked", .noat "Pages" "refused", .noat "Pages" "came", .noat "Pages" "went", .noat "Pages" "most", .glo "Run", .cls "Run", .mkr "Run", .noat "Run" "first", .noat "Run" "small", .noat "Run" "pages", .noat "Run" "used", .glo "Block", .cls "Block", .mkr "Block"]
def fa4 : List He.Fa := [.noat "Block" "size", .noat "Block" "run", .glo "Blocks", .cls "Blocks", .mkr "Blocks", .noat "Blocks" "pages", .noat "Blocks" "blocks", .noat "Blocks" "runs", .glo "Piece", .cls "Piece", .mkr "Piece", .noat "Piece" "number", .noat "Piece" "block", .noat "Piece" "place", .noat "Piece" "size", .noat "Piece" "guard", .noat "Piece" "who", .noat "Piece" "is_held", .noat "Piece" "giver", .noat "Piece" "others", .glo "House", .cls "House", .mkr "House", .noat "House" "blocks", .noat "House" "guard", .noat "House" "most_held", .noat "House" "pieces", .noat "House" "waiting", .noat "House" "next_number", .noat "House" "told_kinds"]
def fa5 : List He.Fa := [.int "MORE" 1, .int "LESS" 2, .int "TELL" 3, .int "KINDS" 8, .int "PAGE" 4096, .int "OUTSIDE" 0, .int "FREE" 1, .int "TAKEN" 2, .int "STEP" 16, .int "FIRST_STEPS" 8, .int "DOUBLINGS" 8, .int "EIGHTH" 8, .int "NEW" 205, .int "GIVEN" 221, .int "FRONT_WRONG" 4, .int "BACK_WRONG" 5, .int "BYTES_WRONG" 6, .int "ODD" (-8), .int "NO_ONE" (-5), .int "TOO_MANY" (-6), .int "FULL" (-7), .int "TWICE" 1, .int "INSIDE" 2, .int "NOWHERE" 3, .int "LEFT" 7, .int "MOST_PIECES" 65536, .glo "COUNTS", .glo "ROWS", .free "len", .free "range"]
def fa6 : List He.Fa := [.free "enumerate", .free "sum", .free "sorted", .free "min", .free "max", .free "all", .free "list", .free "int"]
def fa : List He.Fa := fa0 ++ fa1 ++ fa2 ++ fa3 ++ fa4 ++ fa5 ++ fa6
def ex (K : PySem.W.Frag) : Bool := He.tupB K "COUNTS" [.int 5, .int 3, .int 2, .int 3, .int 1, .int 2, .int 0, .int 0, .int 0, .int 1, .int 1, .int 2, .int 0] && He.tupB K "ROWS" [.int 1, .int 1, .int 1, .int 1, .int 1, .int 0, .int 1, .int 1, .int 1, .int 0, .int 0, .int 0, .int 0]
/-- the Hook: facts of each def and name, and the two tuples of the top -/
abbrev AlM : Type := He.AlD × Bool
def obsM (g : Addr → Option Obj) : AlM := (He.obsD fa fn (He.frG g (He.asD g 4)), ex (He.frG g (He.asD g 4)))
def hk : PySem.W.Hook where
  α := AlM
  obs := fun s => obsM s.heap.get?
  val := fun _ => (He.valD fn, true)
  says := fun _ h => ∃ K : PySem.W.Frag, K.In h ∧ He.SaysD fa fn K ∧ ex K = true
  of := fun _ _ e => ⟨_, He.frG_in, congrArg (fun z : AlM => z.1) e, congrArg (fun z : AlM => z.2) e⟩
  keeps := fun _ _ _ ⟨K, hK, c⟩ k => ⟨K, PySem.W.Frag.In.keeps hK k, c⟩
def ob (s : PySem.W.SharedT) : AlM := obsM (HandSHeadRun.getT s)
theorem ob_eq (s : PySem.W.SharedT) : ob s = hk.obs s.abs := by
  have e : HandSHeadRun.getT s = s.abs.heap.get? := funext (HandSHeadRun.getT_eq s)
  show obsM _ = obsM _
  rw [e]
abbrev R : PySem.W.OpenSpec := PySem.Challenge.rw_guardedkeep_s01_answers
def names0 : List PySem.Str := ["MORE", "LESS", "TELL", "KINDS", "Asks", "PAGE", "OUTSIDE", "FREE", "TAKEN", "Pages", "STEP", "FIRST_STEPS", "DOUBLINGS", "EIGHTH", "small_sizes", "size_for", "run_pages", "rest_of", "pages_of", "Run", "Block", "Blocks", "NEW", "GIVEN", "FRONT_WRONG", "BACK_WRONG", "BYTES_WRONG", "guard_byte", "Piece", "ODD"]
def names1 : List PySem.Str := ["NO_ONE", "TOO_MANY", "FULL", "TWICE", "INSIDE", "NOWHERE", "LEFT", "MOST_PIECES", "COUNTS", "ROWS", "is_from", "is_who", "is_place", "is_size", "is_begin", "front_of", "House", "changing", "plain", "begun", "row_at"]
def names : List PySem.Str := names0 ++ names1
abbrev qv : Program := PySem.W.view R.prog [56]
theorem run (w : World) : HandSHeadRun.RunEqS R qv hk ob 12000 names w := by
  intro os
  kernel_rfl
end GK
end
section
set_option Elab.async false
set_option linter.all false
set_option maxRecDepth 100000
set_option maxHeartbeats 4000000
namespace GK
open PySem PySem.Spec PyProof.Rows L2
/-! ### what the walk takes of the top -/
structure Env (K : PySem.W.Frag) (mg : Str → Option Value) : Prop where
  c : He.SaysD fa fn K
  x : ex K = true
  h : ∃ h : Heap, K.In h ∧ h.Ns mainGlobals mg
/-- a def that keeps a promise, no error leaves it -/
def DOk (P : Program) (w : World) (K : PySem.W.Frag) (mg : Str → Option Value) (base : Heap) (k : Nat) (p : Str × Option Str) (ps : List Str) (sp : Sp) : Prop :=
  ∃ fd, FnOk P w K mg base CX0 k (He.fAd K p) fd ps sp ∧ Binds K fd ps [] ∧ PySem.W.keepIn K (.ref (He.fAd K p)) = true
def tCl (sp : Sp) (t : TA) : TE := fun σ H Q => t σ H fun vs H1 => sp vs H1 Q E0
def tMt (C : Addr) (m : Str) (sp : Sp) (ta : TE) (t : TA) : TE := fun σ H Q => ta σ H fun x H1 => ∃ a dx fs, x = .ref a ∧ H1 a = some (.ins C dx fs) ∧ fs.lookup m = none ∧ t σ H1 fun vs H2 => sp (x :: vs) H2 Q E0
def tMk (C : Addr) (sp : Sp) (t : TA) : TE := fun σ H Q => t σ H fun vs H1 => ∀ x dx, H1 x = none → H1 dx = none → dx ≠ x →
  sp (.ref x :: vs) (upd (upd H1 dx (.own x)) x (.ins C dx [])) (fun v H2 => v = .non ∧ Q (.ref x) H2) E0
section
variable {X : Cx} {k : Nat} {f C : Addr} {p : Str × Option Str} {ps : List Str} {sp : Sp} {x m : Str} {pp pos apos : Pos} {e o : Expr} {es : List Expr} {ta : TE} {t : TA}
/-! the layer's rules with the written part told -/
theorem kfld {f : Str} {K : PySem.W.Frag} (h : X.K = K) (he : PE X e ta) (hb : attributeBase e f X.env (eval e X.env) = eval e X.env) : PE X (.Attribute e f pos) (tFld K ta f) := h ▸ pe_fld he hb
theorem kix {K : PySem.W.Frag} (h : X.K = K) : IxR X (rIxL K) := h ▸ ix_list
theorem kixT {K : PySem.W.Frag} (h : X.K = K) : IxR X (rIxT K) := h ▸ ix_tup
theorem ksfld {f : Str} {K : PySem.W.Frag} {value : Expr} {tv : TE} {pos' : Pos} (h : X.K = K) (ha : PE X o ta) (hv : PE X value tv) (hs : swapsWith value (some (.Attribute o f pos')) pos.line X.env = pure false) : PS X (.Assign [.Attribute o f pos'] value pos) (sFld K ta tv f) := h ▸ ps_fld ha hv hs
theorem kpi {K : PySem.W.Frag} {tg l : Expr} {tl : TE} (h : X.K = K) (hl : PE X l tl) : PI X tg l (iList K tl) := h ▸ pi_list hl
theorem ktup {K : PySem.W.Frag} {es : List Expr} {k : Nat} {t : TGs} {n : Nat} (h : X.K = K) (hc : X.calm = true) (hg : PGs X es t)
    (hn : (assignEach es X.env).length = n := by rfl) (hst : (assignEach es X.env).findIdx? (·.1) = none := by rfl) : PG X (.Tuple es k pos) (gTup K n t) := h ▸ pg_tup hc hg hn hst
theorem pe_gi {i : Int} (h : ∃ u, X.mg x = some (.int i u)) (hg : Gl X x := by rfl) (hd : (x == ("__debug__" : Str)) = false := by decide) : PE X (.Name x pos) (tC (.int i)) := by
  obtain ⟨u, e⟩ := h
  exact pe_glob hg e ⟨u, rfl⟩ hd
theorem pcl {K : PySem.W.Frag} (hK : X.K = K) (hm : X.mg x = some (.ref (He.fAd K p))) (D : DOk X.prog X.w K X.mg X.base k p ps sp) (hr : Room k X.A) (ha : PA X (e :: es) t) (hg : Gl X x := by rfl) (hdb : (x == ("__debug__" : Str)) = false := by decide)
    (he : starEach (e :: es) X.env = (false, eval e X.env) :: starEach es X.env := by rfl) (hpl : (backTo pos (starEach es X.env)).any (·.1) = false := by rfl) : PE X (.Call (.Name x pp) (e :: es) [] pos) (tCl sp t) := by
  subst hK
  obtain ⟨fd, F, b, kp⟩ := D
  have z := pe_call (E := E0) F hr hg hm kp b .nil pass0 ha hdb he hpl (p := pp)
  have e1 : tCall sp [] E0 t = tCl sp t := by
    unfold tCall tCl
    simp only [List.append_nil]
  rw [e1] at z
  exact z
theorem pmt {K : PySem.W.Frag} (hK : X.K = K) {pl : Sem Bool} (he : PE X o ta) (c : Cls K C) (hm : Meth K C m (He.fAd K p)) (D : DOk X.prog X.w K X.mg X.base k p ps sp) (hr : Room k X.A) (ha : PA X (e :: es) t)
    (hst : starEach (e :: es) X.env = (false, eval e X.env) :: starEach es X.env := by rfl) (hpl : (backTo pos (starEach es X.env)).any (·.1) = false := by rfl)
    (ht : eval (.Call (.Attribute o m apos) (e :: es) [] pos) X.env = (do
      let ov ← eval o X.env
      standAt apos.atName
      let (f, first) ← holding [ov] (getMethod ov m pl)
      callWith pos f first (backTo pos (starEach (e :: es) X.env)) (backToKw pos (keywordEach [] X.env))) := by rfl) : PE X (.Call (.Attribute o m apos) (e :: es) [] pos) (tMt C m sp ta t) := by
  subst hK
  obtain ⟨fd, F, b, kp⟩ := D
  have z := pe_meth (E := E0) he c hm F hr b .nil pass0 ha hst hpl ht
  have e1 : tMeth C m sp [] E0 ta t = tMt C m sp ta t := by
    unfold tMeth tMt
    simp only [List.append_nil]
  rw [e1] at z
  exact z
theorem pmt0 {K : PySem.W.Frag} (hK : X.K = K) {pl : Sem Bool} (he : PE X o ta) (c : Cls K C) (hm : Meth K C m (He.fAd K p)) (D : DOk X.prog X.w K X.mg X.base k p ps sp) (hr : Room k X.A)
    (ht : eval (.Call (.Attribute o m apos) [] [] pos) X.env = (do
      let ov ← eval o X.env
      standAt apos.atName
      let (f, first) ← holding [ov] (getMethod ov m pl)
      callWith pos f first (backTo pos (starEach [] X.env)) (backToKw pos (keywordEach [] X.env))) := by rfl) : PE X (.Call (.Attribute o m apos) [] [] pos) (tMt C m sp ta tNil) := by
  subst hK
  obtain ⟨fd, F, b, kp⟩ := D
  have z := pe_meth0 (E := E0) he c hm F hr b .nil pass0 ht
  have e1 : tMeth C m sp [] E0 ta tNil = tMt C m sp ta tNil := by
    unfold tMeth tMt
    simp only [List.append_nil]
  rw [e1] at z
  exact z
theorem pcl0 {K : PySem.W.Frag} (hK : X.K = K) (hm : X.mg x = some (.ref (He.fAd K p))) (D : DOk X.prog X.w K X.mg X.base k p ps sp) (hr : Room k X.A) (hg : Gl X x := by rfl) (hdb : (x == ("__debug__" : Str)) = false := by decide) : PE X (.Call (.Name x pp) [] [] pos) (tCl sp tNil) := by
  subst hK
  obtain ⟨fd, F, b, kp⟩ := D
  have z := pe_call0 (E := E0) F hr hg hm kp b .nil pass0 hdb (p := pp) (pos := pos)
  have e1 : tCall sp [] E0 tNil = tCl sp tNil := by
    unfold tCall tCl
    simp only [List.append_nil]
  rw [e1] at z
  exact z
theorem pmk {K : PySem.W.Frag} (hK : X.K = K) (M : Mk K C (He.fAd K p)) (hm : X.mg x = some (.ref C)) (D : DOk X.prog X.w K X.mg X.base k p ps sp) (hr : Room (k + 1) X.A) (ha : PA X (e :: es) t) (hg : Gl X x := by rfl) (hdb : (x == ("__debug__" : Str)) = false := by decide)
    (he : starEach (e :: es) X.env = (false, eval e X.env) :: starEach es X.env := by rfl) (hpl : (backTo pos (starEach es X.env)).any (·.1) = false := by rfl) : PE X (.Call (.Name x pp) (e :: es) [] pos) (tMk C sp t) := by
  subst hK
  obtain ⟨fd, F, b, kp⟩ := D
  have z := pe_make (E := E0) M F hr hg hm b .nil pass0 ha hdb he hpl (p := pp)
  have e1 : tMake C sp [] E0 t = tMk C sp t := by
    unfold tMake tMk
    simp only [List.append_nil]
  rw [e1] at z
  exact z
end
section
variable {K : PySem.W.Frag} {mg : Str → Option Value}
theorem Env.d_Asks_init (T : Env K mg) : ∃ fd, FnP K "__init__" "Asks.__init__" s_Asks_init (He.fAd K ("Asks", some "__init__")) fd := T.c.def_ 0 rfl
theorem Env.d_Asks_answer (T : Env K mg) : ∃ fd, FnP K "answer" "Asks.answer" s_Asks_answer (He.fAd K ("Asks", some "answer")) fd := T.c.def_ 1 rfl
theorem Env.d_Asks_more (T : Env K mg) : ∃ fd, FnP K "more" "Asks.more" s_Asks_more (He.fAd K ("Asks", some "more")) fd := T.c.def_ 2 rfl
theorem Env.d_Asks_less (T : Env K mg) : ∃ fd, FnP K "less" "Asks.less" s_Asks_less (He.fAd K ("Asks", some "less")) fd := T.c.def_ 3 rfl
theorem Env.d_Asks_tell (T : Env K mg) : ∃ fd, FnP K "tell" "Asks.tell" s_Asks_tell (He.fAd K ("Asks", some "tell")) fd := T.c.def_ 4 rfl
theorem Env.d_Asks_row (T : Env K mg) : ∃ fd, FnP K "row" "Asks.row" s_Asks_row (He.fAd K ("Asks", some "row")) fd := T.c.def_ 5 rfl
theorem Env.d_Pages_init (T : Env K mg) : ∃ fd, FnP K "__init__" "Pages.__init__" s_Pages_init (He.fAd K ("Pages", some "__init__")) fd := T.c.def_ 6 rfl
theorem Env.d_Pages_count_of (T : Env K mg) : ∃ fd, FnP K "count_of" "Pages.count_of" s_Pages_count_of (He.fAd K ("Pages", some "count_of")) fd := T.c.def_ 7 rfl
theorem Env.d_Pages_owned (T : Env K mg) : ∃ fd, FnP K "owned" "Pages.owned" s_Pages_owned (He.fAd K ("Pages", some "owned")) fd := T.c.def_ 8 rfl
theorem Env.d_Pages_set_marks (T : Env K mg) : ∃ fd, FnP K "set_marks" "Pages.set_marks" s_Pages_set_marks (He.fAd K ("Pages", some "set_marks")) fd := T.c.def_ 9 rfl
theorem Env.d_Pages_own_rows (T : Env K mg) : ∃ fd, FnP K "own_rows" "Pages.own_rows" s_Pages_own_rows (He.fAd K ("Pages", some "own_rows")) fd := T.c.def_ 10 rfl
theorem Env.d_Pages_free_place (T : Env K mg) : ∃ fd, FnP K "free_place" "Pages.free_place" s_Pages_free_place (He.fAd K ("Pages", some "free_place")) fd := T.c.def_ 11 rfl
theorem Env.d_Pages_highest_free (T : Env K mg) : ∃ fd, FnP K "highest_free" "Pages.highest_free" s_Pages_highest_free (He.fAd K ("Pages", some "highest_free")) fd := T.c.def_ 12 rfl
theorem Env.d_Pages_trim (T : Env K mg) : ∃ fd, FnP K "trim" "Pages.trim" s_Pages_trim (He.fAd K ("Pages", some "trim")) fd := T.c.def_ 13 rfl
theorem Env.d_Pages_may_come (T : Env K mg) : ∃ fd, FnP K "may_come" "Pages.may_come" s_Pages_may_come (He.fAd K ("Pages", some "may_come")) fd := T.c.def_ 14 rfl
theorem Env.d_Pages_ask (T : Env K mg) : ∃ fd, FnP K "ask" "Pages.ask" s_Pages_ask (He.fAd K ("Pages", some "ask")) fd := T.c.def_ 15 rfl
theorem Env.d_Pages_place_for (T : Env K mg) : ∃ fd, FnP K "place_for" "Pages.place_for" s_Pages_place_for (He.fAd K ("Pages", some "place_for")) fd := T.c.def_ 16 rfl
theorem Env.d_Pages_take (T : Env K mg) : ∃ fd, FnP K "take" "Pages.take" s_Pages_take (He.fAd K ("Pages", some "take")) fd := T.c.def_ 17 rfl
theorem Env.d_Pages_give (T : Env K mg) : ∃ fd, FnP K "give" "Pages.give" s_Pages_give (He.fAd K ("Pages", some "give")) fd := T.c.def_ 18 rfl
theorem Env.d_Pages_give_back (T : Env K mg) : ∃ fd, FnP K "give_back" "Pages.give_back" s_Pages_give_back (He.fAd K ("Pages", some "give_back")) fd := T.c.def_ 19 rfl
theorem Env.d_Pages_sums (T : Env K mg) : ∃ fd, FnP K "sums" "Pages.sums" s_Pages_sums (He.fAd K ("Pages", some "sums")) fd := T.c.def_ 20 rfl
theorem Env.d_small_sizes (T : Env K mg) : ∃ fd, FnP K "small_sizes" "small_sizes" s_small_sizes (He.fAd K ("small_sizes", none)) fd := T.c.def_ 21 rfl
theorem Env.d_size_for (T : Env K mg) : ∃ fd, FnP K "size_for" "size_for" s_size_for (He.fAd K ("size_for", none)) fd := T.c.def_ 22 rfl
theorem Env.d_run_pages (T : Env K mg) : ∃ fd, FnP K "run_pages" "run_pages" s_run_pages (He.fAd K ("run_pages", none)) fd := T.c.def_ 23 rfl
theorem Env.d_rest_of (T : Env K mg) : ∃ fd, FnP K "rest_of" "rest_of" s_rest_of (He.fAd K ("rest_of", none)) fd := T.c.def_ 24 rfl
theorem Env.d_pages_of (T : Env K mg) : ∃ fd, FnP K "pages_of" "pages_of" s_pages_of (He.fAd K ("pages_of", none)) fd := T.c.def_ 25 rfl
theorem Env.d_Run_init (T : Env K mg) : ∃ fd, FnP K "__init__" "Run.__init__" s_Run_init (He.fAd K ("Run", some "__init__")) fd := T.c.def_ 26 rfl
theorem Env.d_Run_has_free (T : Env K mg) : ∃ fd, FnP K "has_free" "Run.has_free" s_Run_has_free (He.fAd K ("Run", some "has_free")) fd := T.c.def_ 27 rfl
theorem Env.d_Run_is_empty (T : Env K mg) : ∃ fd, FnP K "is_empty" "Run.is_empty" s_Run_is_empty (He.fAd K ("Run", some "is_empty")) fd := T.c.def_ 28 rfl
theorem Env.d_Run_place_at (T : Env K mg) : ∃ fd, FnP K "place_at" "Run.place_at" s_Run_place_at (He.fAd K ("Run", some "place_at")) fd := T.c.def_ 29 rfl
theorem Env.d_Run_number_at (T : Env K mg) : ∃ fd, FnP K "number_at" "Run.number_at" s_Run_number_at (He.fAd K ("Run", some "number_at")) fd := T.c.def_ 30 rfl
theorem Env.d_Block_init (T : Env K mg) : ∃ fd, FnP K "__init__" "Block.__init__" s_Block_init (He.fAd K ("Block", some "__init__")) fd := T.c.def_ 31 rfl
theorem Env.d_Block_room (T : Env K mg) : ∃ fd, FnP K "room" "Block.room" s_Block_room (He.fAd K ("Block", some "room")) fd := T.c.def_ 32 rfl
theorem Env.d_Blocks_init (T : Env K mg) : ∃ fd, FnP K "__init__" "Blocks.__init__" s_Blocks_init (He.fAd K ("Blocks", some "__init__")) fd := T.c.def_ 33 rfl
theorem Env.d_Blocks_runs_with_room (T : Env K mg) : ∃ fd, FnP K "runs_with_room" "Blocks.runs_with_room" s_Blocks_runs_with_room (He.fAd K ("Blocks", some "runs_with_room")) fd := T.c.def_ 34 rfl
theorem Env.d_Blocks_run_for (T : Env K mg) : ∃ fd, FnP K "run_for" "Blocks.run_for" s_Blocks_run_for (He.fAd K ("Blocks", some "run_for")) fd := T.c.def_ 35 rfl
theorem Env.d_Blocks_take_small (T : Env K mg) : ∃ fd, FnP K "take_small" "Blocks.take_small" s_Blocks_take_small (He.fAd K ("Blocks", some "take_small")) fd := T.c.def_ 36 rfl
theorem Env.d_Blocks_take_great (T : Env K mg) : ∃ fd, FnP K "take_great" "Blocks.take_great" s_Blocks_take_great (He.fAd K ("Blocks", some "take_great")) fd := T.c.def_ 37 rfl
theorem Env.d_Blocks_take (T : Env K mg) : ∃ fd, FnP K "take" "Blocks.take" s_Blocks_take (He.fAd K ("Blocks", some "take")) fd := T.c.def_ 38 rfl
theorem Env.d_Blocks_give (T : Env K mg) : ∃ fd, FnP K "give" "Blocks.give" s_Blocks_give (He.fAd K ("Blocks", some "give")) fd := T.c.def_ 39 rfl
theorem Env.d_Blocks_run_bytes (T : Env K mg) : ∃ fd, FnP K "run_bytes" "Blocks.run_bytes" s_Blocks_run_bytes (He.fAd K ("Blocks", some "run_bytes")) fd := T.c.def_ 40 rfl
theorem Env.d_Blocks_sums (T : Env K mg) : ∃ fd, FnP K "sums" "Blocks.sums" s_Blocks_sums (He.fAd K ("Blocks", some "sums")) fd := T.c.def_ 41 rfl
theorem Env.d_guard_byte (T : Env K mg) : ∃ fd, FnP K "guard_byte" "guard_byte" s_guard_byte (He.fAd K ("guard_byte", none)) fd := T.c.def_ 42 rfl
theorem Env.d_Piece_init (T : Env K mg) : ∃ fd, FnP K "__init__" "Piece.__init__" s_Piece_init (He.fAd K ("Piece", some "__init__")) fd := T.c.def_ 43 rfl
theorem Env.d_Piece_end (T : Env K mg) : ∃ fd, FnP K "end" "Piece.end" s_Piece_end (He.fAd K ("Piece", some "end")) fd := T.c.def_ 44 rfl
theorem Env.d_Piece_has (T : Env K mg) : ∃ fd, FnP K "has" "Piece.has" s_Piece_has (He.fAd K ("Piece", some "has")) fd := T.c.def_ 45 rfl
theorem Env.d_Piece_is_own (T : Env K mg) : ∃ fd, FnP K "is_own" "Piece.is_own" s_Piece_is_own (He.fAd K ("Piece", some "is_own")) fd := T.c.def_ 46 rfl
theorem Env.d_Piece_usual (T : Env K mg) : ∃ fd, FnP K "usual" "Piece.usual" s_Piece_usual (He.fAd K ("Piece", some "usual")) fd := T.c.def_ 47 rfl
theorem Env.d_Piece_byte (T : Env K mg) : ∃ fd, FnP K "byte" "Piece.byte" s_Piece_byte (He.fAd K ("Piece", some "byte")) fd := T.c.def_ 48 rfl
theorem Env.d_Piece_put (T : Env K mg) : ∃ fd, FnP K "put" "Piece.put" s_Piece_put (He.fAd K ("Piece", some "put")) fd := T.c.def_ 49 rfl
theorem Env.d_Piece_copy_from (T : Env K mg) : ∃ fd, FnP K "copy_from" "Piece.copy_from" s_Piece_copy_from (He.fAd K ("Piece", some "copy_from")) fd := T.c.def_ 50 rfl
theorem Env.d_Piece_hold (T : Env K mg) : ∃ fd, FnP K "hold" "Piece.hold" s_Piece_hold (He.fAd K ("Piece", some "hold")) fd := T.c.def_ 51 rfl
theorem Env.d_Piece_wrong_front (T : Env K mg) : ∃ fd, FnP K "wrong_front" "Piece.wrong_front" s_Piece_wrong_front (He.fAd K ("Piece", some "wrong_front")) fd := T.c.def_ 52 rfl
theorem Env.d_Piece_wrong_back (T : Env K mg) : ∃ fd, FnP K "wrong_back" "Piece.wrong_back" s_Piece_wrong_back (He.fAd K ("Piece", some "wrong_back")) fd := T.c.def_ 53 rfl
theorem Env.d_Piece_wrong_bytes (T : Env K mg) : ∃ fd, FnP K "wrong_bytes" "Piece.wrong_bytes" s_Piece_wrong_bytes (He.fAd K ("Piece", some "wrong_bytes")) fd := T.c.def_ 54 rfl
theorem Env.d_Piece_findings (T : Env K mg) : ∃ fd, FnP K "findings" "Piece.findings" s_Piece_findings (He.fAd K ("Piece", some "findings")) fd := T.c.def_ 55 rfl
theorem Env.d_Piece_put_right (T : Env K mg) : ∃ fd, FnP K "put_right" "Piece.put_right" s_Piece_put_right (He.fAd K ("Piece", some "put_right")) fd := T.c.def_ 56 rfl
theorem Env.d_Piece_state (T : Env K mg) : ∃ fd, FnP K "state" "Piece.state" s_Piece_state (He.fAd K ("Piece", some "state")) fd := T.c.def_ 57 rfl
theorem Env.d_is_from (T : Env K mg) : ∃ fd, FnP K "is_from" "is_from" s_is_from (He.fAd K ("is_from", none)) fd := T.c.def_ 58 rfl
theorem Env.d_is_who (T : Env K mg) : ∃ fd, FnP K "is_who" "is_who" s_is_who (He.fAd K ("is_who", none)) fd := T.c.def_ 59 rfl
theorem Env.d_is_place (T : Env K mg) : ∃ fd, FnP K "is_place" "is_place" s_is_place (He.fAd K ("is_place", none)) fd := T.c.def_ 60 rfl
theorem Env.d_is_size (T : Env K mg) : ∃ fd, FnP K "is_size" "is_size" s_is_size (He.fAd K ("is_size", none)) fd := T.c.def_ 61 rfl
theorem Env.d_is_begin (T : Env K mg) : ∃ fd, FnP K "is_begin" "is_begin" s_is_begin (He.fAd K ("is_begin", none)) fd := T.c.def_ 62 rfl
theorem Env.d_front_of (T : Env K mg) : ∃ fd, FnP K "front_of" "front_of" s_front_of (He.fAd K ("front_of", none)) fd := T.c.def_ 63 rfl
theorem Env.d_House_init (T : Env K mg) : ∃ fd, FnP K "__init__" "House.__init__" s_House_init (He.fAd K ("House", some "__init__")) fd := T.c.def_ 64 rfl
theorem Env.d_House_tell (T : Env K mg) : ∃ fd, FnP K "tell" "House.tell" s_House_tell (He.fAd K ("House", some "tell")) fd := T.c.def_ 65 rfl
theorem Env.d_House_living_at (T : Env K mg) : ∃ fd, FnP K "living_at" "House.living_at" s_House_living_at (He.fAd K ("House", some "living_at")) fd := T.c.def_ 66 rfl
theorem Env.d_House_piece_at (T : Env K mg) : ∃ fd, FnP K "piece_at" "House.piece_at" s_House_piece_at (He.fAd K ("House", some "piece_at")) fd := T.c.def_ 67 rfl
theorem Env.d_House_piece_with (T : Env K mg) : ∃ fd, FnP K "piece_with" "House.piece_with" s_House_piece_with (He.fAd K ("House", some "piece_with")) fd := T.c.def_ 68 rfl
theorem Env.d_House_look_at (T : Env K mg) : ∃ fd, FnP K "look_at" "House.look_at" s_House_look_at (He.fAd K ("House", some "look_at")) fd := T.c.def_ 69 rfl
theorem Env.d_House_held_sizes (T : Env K mg) : ∃ fd, FnP K "held_sizes" "House.held_sizes" s_House_held_sizes (He.fAd K ("House", some "held_sizes")) fd := T.c.def_ 70 rfl
theorem Env.d_House_let_go (T : Env K mg) : ∃ fd, FnP K "let_go" "House.let_go" s_House_let_go (He.fAd K ("House", some "let_go")) fd := T.c.def_ 71 rfl
theorem Env.d_House_new_piece (T : Env K mg) : ∃ fd, FnP K "new_piece" "House.new_piece" s_House_new_piece (He.fAd K ("House", some "new_piece")) fd := T.c.def_ 72 rfl
theorem Env.d_House_take (T : Env K mg) : ∃ fd, FnP K "take" "House.take" s_House_take (He.fAd K ("House", some "take")) fd := T.c.def_ 73 rfl
theorem Env.d_House_give_up (T : Env K mg) : ∃ fd, FnP K "give_up" "House.give_up" s_House_give_up (He.fAd K ("House", some "give_up")) fd := T.c.def_ 74 rfl
theorem Env.d_House_no_piece (T : Env K mg) : ∃ fd, FnP K "no_piece" "House.no_piece" s_House_no_piece (He.fAd K ("House", some "no_piece")) fd := T.c.def_ 75 rfl
theorem Env.d_House_give (T : Env K mg) : ∃ fd, FnP K "give" "House.give" s_House_give (He.fAd K ("House", some "give")) fd := T.c.def_ 76 rfl
theorem Env.d_House_resize (T : Env K mg) : ∃ fd, FnP K "resize" "House.resize" s_House_resize (He.fAd K ("House", some "resize")) fd := T.c.def_ 77 rfl
theorem Env.d_House_write (T : Env K mg) : ∃ fd, FnP K "write" "House.write" s_House_write (He.fAd K ("House", some "write")) fd := T.c.def_ 78 rfl
theorem Env.d_House_read (T : Env K mg) : ∃ fd, FnP K "read" "House.read" s_House_read (He.fAd K ("House", some "read")) fd := T.c.def_ 79 rfl
theorem Env.d_House_look (T : Env K mg) : ∃ fd, FnP K "look" "House.look" s_House_look (He.fAd K ("House", some "look")) fd := T.c.def_ 80 rfl
theorem Env.d_House_let (T : Env K mg) : ∃ fd, FnP K "let" "House.let" s_House_let (He.fAd K ("House", some "let")) fd := T.c.def_ 81 rfl
theorem Env.d_House_living (T : Env K mg) : ∃ fd, FnP K "living" "House.living" s_House_living (He.fAd K ("House", some "living")) fd := T.c.def_ 82 rfl
theorem Env.d_House_left (T : Env K mg) : ∃ fd, FnP K "left" "House.left" s_House_left (He.fAd K ("House", some "left")) fd := T.c.def_ 83 rfl
theorem Env.d_House_told (T : Env K mg) : ∃ fd, FnP K "told" "House.told" s_House_told (He.fAd K ("House", some "told")) fd := T.c.def_ 84 rfl
theorem Env.d_House_whose (T : Env K mg) : ∃ fd, FnP K "whose" "House.whose" s_House_whose (He.fAd K ("House", some "whose")) fd := T.c.def_ 85 rfl
theorem Env.d_House_listed (T : Env K mg) : ∃ fd, FnP K "listed" "House.listed" s_House_listed (He.fAd K ("House", some "listed")) fd := T.c.def_ 86 rfl
theorem Env.d_House_sums (T : Env K mg) : ∃ fd, FnP K "sums" "House.sums" s_House_sums (He.fAd K ("House", some "sums")) fd := T.c.def_ 87 rfl
theorem Env.d_changing (T : Env K mg) : ∃ fd, FnP K "changing" "changing" s_changing (He.fAd K ("changing", none)) fd := T.c.def_ 88 rfl
theorem Env.d_plain (T : Env K mg) : ∃ fd, FnP K "plain" "plain" s_plain (He.fAd K ("plain", none)) fd := T.c.def_ 89 rfl
theorem Env.d_begun (T : Env K mg) : ∃ fd, FnP K "begun" "begun" s_begun (He.fAd K ("begun", none)) fd := T.c.def_ 90 rfl
theorem Env.d_row_at (T : Env K mg) : ∃ fd, FnP K "row_at" "row_at" s_row_at (He.fAd K ("row_at", none)) fd := T.c.def_ 91 rfl
theorem Env.d_answers (T : Env K mg) : ∃ fd, FnP K "answers" "answers" s_answers (He.fAd K ("answers", none)) fd := T.c.def_ 92 rfl
theorem Env.m_Asks_answer (T : Env K mg) : Meth K (He.ga K "Asks") "answer" (He.fAd K ("Asks", some "answer")) := He.meth_ok (T.c.fact 1 rfl)
theorem Env.m_Asks_more (T : Env K mg) : Meth K (He.ga K "Asks") "more" (He.fAd K ("Asks", some "more")) := He.meth_ok (T.c.fact 2 rfl)
theorem Env.m_Asks_less (T : Env K mg) : Meth K (He.ga K "Asks") "less" (He.fAd K ("Asks", some "less")) := He.meth_ok (T.c.fact 3 rfl)
theorem Env.m_Asks_tell (T : Env K mg) : Meth K (He.ga K "Asks") "tell" (He.fAd K ("Asks", some "tell")) := He.meth_ok (T.c.fact 4 rfl)
theorem Env.m_Asks_row (T : Env K mg) : Meth K (He.ga K "Asks") "row" (He.fAd K ("Asks", some "row")) := He.meth_ok (T.c.fact 5 rfl)
theorem Env.m_Pages_count_of (T : Env K mg) : Meth K (He.ga K "Pages") "count_of" (He.fAd K ("Pages", some "count_of")) := He.meth_ok (T.c.fact 7 rfl)
theorem Env.m_Pages_owned (T : Env K mg) : Meth K (He.ga K "Pages") "owned" (He.fAd K ("Pages", some "owned")) := He.meth_ok (T.c.fact 8 rfl)
theorem Env.m_Pages_set_marks (T : Env K mg) : Meth K (He.ga K "Pages") "set_marks" (He.fAd K ("Pages", some "set_marks")) := He.meth_ok (T.c.fact 9 rfl)
theorem Env.m_Pages_own_rows (T : Env K mg) : Meth K (He.ga K "Pages") "own_rows" (He.fAd K ("Pages", some "own_rows")) := He.meth_ok (T.c.fact 10 rfl)
theorem Env.m_Pages_free_place (T : Env K mg) : Meth K (He.ga K "Pages") "free_place" (He.fAd K ("Pages", some "free_place")) := He.meth_ok (T.c.fact 11 rfl)
theorem Env.m_Pages_highest_free (T : Env K mg) : Meth K (He.ga K "Pages") "highest_free" (He.fAd K ("Pages", some "highest_free")) := He.meth_ok (T.c.fact 12 rfl)
theorem Env.m_Pages_trim (T : Env K mg) : Meth K (He.ga K "Pages") "trim" (He.fAd K ("Pages", some "trim")) := He.meth_ok (T.c.fact 13 rfl)
theorem Env.m_Pages_may_come (T : Env K mg) : Meth K (He.ga K "Pages") "may_come" (He.fAd K ("Pages", some "may_come")) := He.meth_ok (T.c.fact 14 rfl)
theorem Env.m_Pages_ask (T : Env K mg) : Meth K (He.ga K "Pages") "ask" (He.fAd K ("Pages", some "ask")) := He.meth_ok (T.c.fact 15 rfl)
theorem Env.m_Pages_place_for (T : Env K mg) : Meth K (He.ga K "Pages") "place_for" (He.fAd K ("Pages", some "place_for")) := He.meth_ok (T.c.fact 16 rfl)
theorem Env.m_Pages_take (T : Env K mg) : Meth K (He.ga K "Pages") "take" (He.fAd K ("Pages", some "take")) := He.meth_ok (T.c.fact 17 rfl)
theorem Env.m_Pages_give (T : Env K mg) : Meth K (He.ga K "Pages") "give" (He.fAd K ("Pages", some "give")) := He.meth_ok (T.c.fact 18 rfl)
theorem Env.m_Pages_give_back (T : Env K mg) : Meth K (He.ga K "Pages") "give_back" (He.fAd K ("Pages", some "give_back")) := He.meth_ok (T.c.fact 19 rfl)
theorem Env.m_Pages_sums (T : Env K mg) : Meth K (He.ga K "Pages") "sums" (He.fAd K ("Pages", some "sums")) := He.meth_ok (T.c.fact 20 rfl)
theorem Env.g_small_sizes (T : Env K mg) : mg "small_sizes" = some (.ref (He.fAd K ("small_sizes", none))) := by
  obtain ⟨h, X, G⟩ := T.h
  exact He.glo_ok X G (T.c.fact 21 rfl)
theorem Env.g_size_for (T : Env K mg) : mg "size_for" = some (.ref (He.fAd K ("size_for", none))) := by
  obtain ⟨h, X, G⟩ := T.h
  exact He.glo_ok X G (T.c.fact 22 rfl)
theorem Env.g_run_pages (T : Env K mg) : mg "run_pages" = some (.ref (He.fAd K ("run_pages", none))) := by
  obtain ⟨h, X, G⟩ := T.h
  exact He.glo_ok X G (T.c.fact 23 rfl)
theorem Env.g_rest_of (T : Env K mg) : mg "rest_of" = some (.ref (He.fAd K ("rest_of", none))) := by
  obtain ⟨h, X, G⟩ := T.h
  exact He.glo_ok X G (T.c.fact 24 rfl)
theorem Env.g_pages_of (T : Env K mg) : mg "pages_of" = some (.ref (He.fAd K ("pages_of", none))) := by
  obtain ⟨h, X, G⟩ := T.h
  exact He.glo_ok X G (T.c.fact 25 rfl)
theorem Env.m_Run_has_free (T : Env K mg) : Meth K (He.ga K "Run") "has_free" (He.fAd K ("Run", some "has_free")) := He.meth_ok (T.c.fact 27 rfl)
theorem Env.m_Run_is_empty (T : Env K mg) : Meth K (He.ga K "Run") "is_empty" (He.fAd K ("Run", some "is_empty")) := He.meth_ok (T.c.fact 28 rfl)
theorem Env.m_Run_place_at (T : Env K mg) : Meth K (He.ga K "Run") "place_at" (He.fAd K ("Run", some "place_at")) := He.meth_ok (T.c.fact 29 rfl)
theorem Env.m_Run_number_at (T : Env K mg) : Meth K (He.ga K "Run") "number_at" (He.fAd K ("Run", some "number_at")) := He.meth_ok (T.c.fact 30 rfl)
theorem Env.m_Block_room (T : Env K mg) : Meth K (He.ga K "Block") "room" (He.fAd K ("Block", some "room")) := He.meth_ok (T.c.fact 32 rfl)
theorem Env.m_Blocks_runs_with_room (T : Env K mg) : Meth K (He.ga K "Blocks") "runs_with_room" (He.fAd K ("Blocks", some "runs_with_room")) := He.meth_ok (T.c.fact 34 rfl)
theorem Env.m_Blocks_run_for (T : Env K mg) : Meth K (He.ga K "Blocks") "run_for" (He.fAd K ("Blocks", some "run_for")) := He.meth_ok (T.c.fact 35 rfl)
theorem Env.m_Blocks_take_small (T : Env K mg) : Meth K (He.ga K "Blocks") "take_small" (He.fAd K ("Blocks", some "take_small")) := He.meth_ok (T.c.fact 36 rfl)
theorem Env.m_Blocks_take_great (T : Env K mg) : Meth K (He.ga K "Blocks") "take_great" (He.fAd K ("Blocks", some "take_great")) := He.meth_ok (T.c.fact 37 rfl)
theorem Env.m_Blocks_take (T : Env K mg) : Meth K (He.ga K "Blocks") "take" (He.fAd K ("Blocks", some "take")) := He.meth_ok (T.c.fact 38 rfl)
theorem Env.m_Blocks_give (T : Env K mg) : Meth K (He.ga K "Blocks") "give" (He.fAd K ("Blocks", some "give")) := He.meth_ok (T.c.fact 39 rfl)
theorem Env.m_Blocks_run_bytes (T : Env K mg) : Meth K (He.ga K "Blocks") "run_bytes" (He.fAd K ("Blocks", some "run_bytes")) := He.meth_ok (T.c.fact 40 rfl)
theorem Env.m_Blocks_sums (T : Env K mg) : Meth K (He.ga K "Blocks") "sums" (He.fAd K ("Blocks", some "sums")) := He.meth_ok (T.c.fact 41 rfl)
theorem Env.g_guard_byte (T : Env K mg) : mg "guard_byte" = some (.ref (He.fAd K ("guard_byte", none))) := by
  obtain ⟨h, X, G⟩ := T.h
  exact He.glo_ok X G (T.c.fact 42 rfl)
theorem Env.m_Piece_end (T : Env K mg) : Meth K (He.ga K "Piece") "end" (He.fAd K ("Piece", some "end")) := He.meth_ok (T.c.fact 44 rfl)
theorem Env.m_Piece_has (T : Env K mg) : Meth K (He.ga K "Piece") "has" (He.fAd K ("Piece", some "has")) := He.meth_ok (T.c.fact 45 rfl)
theorem Env.m_Piece_is_own (T : Env K mg) : Meth K (He.ga K "Piece") "is_own" (He.fAd K ("Piece", some "is_own")) := He.meth_ok (T.c.fact 46 rfl)
theorem Env.m_Piece_usual (T : Env K mg) : Meth K (He.ga K "Piece") "usual" (He.fAd K ("Piece", some "usual")) := He.meth_ok (T.c.fact 47 rfl)
theorem Env.m_Piece_byte (T : Env K mg) : Meth K (He.ga K "Piece") "byte" (He.fAd K ("Piece", some "byte")) := He.meth_ok (T.c.fact 48 rfl)
theorem Env.m_Piece_put (T : Env K mg) : Meth K (He.ga K "Piece") "put" (He.fAd K ("Piece", some "put")) := He.meth_ok (T.c.fact 49 rfl)
theorem Env.m_Piece_copy_from (T : Env K mg) : Meth K (He.ga K "Piece") "copy_from" (He.fAd K ("Piece", some "copy_from")) := He.meth_ok (T.c.fact 50 rfl)
theorem Env.m_Piece_hold (T : Env K mg) : Meth K (He.ga K "Piece") "hold" (He.fAd K ("Piece", some "hold")) := He.meth_ok (T.c.fact 51 rfl)
theorem Env.m_Piece_wrong_front (T : Env K mg) : Meth K (He.ga K "Piece") "wrong_front" (He.fAd K ("Piece", some "wrong_front")) := He.meth_ok (T.c.fact 52 rfl)
theorem Env.m_Piece_wrong_back (T : Env K mg) : Meth K (He.ga K "Piece") "wrong_back" (He.fAd K ("Piece", some "wrong_back")) := He.meth_ok (T.c.fact 53 rfl)
theorem Env.m_Piece_wrong_bytes (T : Env K mg) : Meth K (He.ga K "Piece") "wrong_bytes" (He.fAd K ("Piece", some "wrong_bytes")) := He.meth_ok (T.c.fact 54 rfl)
theorem Env.m_Piece_findings (T : Env K mg) : Meth K (He.ga K "Piece") "findings" (He.fAd K ("Piece", some "findings")) := He.meth_ok (T.c.fact 55 rfl)
theorem Env.m_Piece_put_right (T : Env K mg) : Meth K (He.ga K "Piece") "put_right" (He.fAd K ("Piece", some "put_right")) := He.meth_ok (T.c.fact 56 rfl)
theorem Env.m_Piece_state (T : Env K mg) : Meth K (He.ga K "Piece") "state" (He.fAd K ("Piece", some "state")) := He.meth_ok (T.c.fact 57 rfl)
theorem Env.g_is_from (T : Env K mg) : mg "is_from" = some (.ref (He.fAd K ("is_from", none))) := by
  obtain ⟨h, X, G⟩ := T.h
  exact He.glo_ok X G (T.c.fact 58 rfl)
theorem Env.g_is_who (T : Env K mg) : mg "is_who" = some (.ref (He.fAd K ("is_who", none))) := by
  obtain ⟨h, X, G⟩ := T.h
  exact He.glo_ok X G (T.c.fact 59 rfl)
theorem Env.g_is_place (T : Env K mg) : mg "is_place" = some (.ref (He.fAd K ("is_place", none))) := by
  obtain ⟨h, X, G⟩ := T.h
  exact He.glo_ok X G (T.c.fact 60 rfl)
theorem Env.g_is_size (T : Env K mg) : mg "is_size" = some (.ref (He.fAd K ("is_size", none))) := by
  obtain ⟨h, X, G⟩ := T.h
  exact He.glo_ok X G (T.c.fact 61 rfl)
theorem Env.g_is_begin (T : Env K mg) : mg "is_begin" = some (.ref (He.fAd K ("is_begin", none))) := by
  obtain ⟨h, X, G⟩ := T.h
  exact He.glo_ok X G (T.c.fact 62 rfl)
theorem Env.g_front_of (T : Env K mg) : mg "front_of" = some (.ref (He.fAd K ("front_of", none))) := by
  obtain ⟨h, X, G⟩ := T.h
  exact He.glo_ok X G (T.c.fact 63 rfl)
theorem Env.m_House_tell (T : Env K mg) : Meth K (He.ga K "House") "tell" (He.fAd K ("House", some "tell")) := He.meth_ok (T.c.fact 65 rfl)
theorem Env.m_House_living_at (T : Env K mg) : Meth K (He.ga K "House") "living_at" (He.fAd K ("House", some "living_at")) := He.meth_ok (T.c.fact 66 rfl)
theorem Env.m_House_piece_at (T : Env K mg) : Meth K (He.ga K "House") "piece_at" (He.fAd K ("House", some "piece_at")) := He.meth_ok (T.c.fact 67 rfl)
theorem Env.m_House_piece_with (T : Env K mg) : Meth K (He.ga K "House") "piece_with" (He.fAd K ("House", some "piece_with")) := He.meth_ok (T.c.fact 68 rfl)
theorem Env.m_House_look_at (T : Env K mg) : Meth K (He.ga K "House") "look_at" (He.fAd K ("House", some "look_at")) := He.meth_ok (T.c.fact 69 rfl)
theorem Env.m_House_held_sizes (T : Env K mg) : Meth K (He.ga K "House") "held_sizes" (He.fAd K ("House", some "held_sizes")) := He.meth_ok (T.c.fact 70 rfl)
theorem Env.m_House_let_go (T : Env K mg) : Meth K (He.ga K "House") "let_go" (He.fAd K ("House", some "let_go")) := He.meth_ok (T.c.fact 71 rfl)
theorem Env.m_House_new_piece (T : Env K mg) : Meth K (He.ga K "House") "new_piece" (He.fAd K ("House", some "new_piece")) := He.meth_ok (T.c.fact 72 rfl)
theorem Env.m_House_take (T : Env K mg) : Meth K (He.ga K "House") "take" (He.fAd K ("House", some "take")) := He.meth_ok (T.c.fact 73 rfl)
theorem Env.m_House_give_up (T : Env K mg) : Meth K (He.ga K "House") "give_up" (He.fAd K ("House", some "give_up")) := He.meth_ok (T.c.fact 74 rfl)
theorem Env.m_House_no_piece (T : Env K mg) : Meth K (He.ga K "House") "no_piece" (He.fAd K ("House", some "no_piece")) := He.meth_ok (T.c.fact 75 rfl)
theorem Env.m_House_give (T : Env K mg) : Meth K (He.ga K "House") "give" (He.fAd K ("House", some "give")) := He.meth_ok (T.c.fact 76 rfl)
theorem Env.m_House_resize (T : Env K mg) : Meth K (He.ga K "House") "resize" (He.fAd K ("House", some "resize")) := He.meth_ok (T.c.fact 77 rfl)
theorem Env.m_House_write (T : Env K mg) : Meth K (He.ga K "House") "write" (He.fAd K ("House", some "write")) := He.meth_ok (T.c.fact 78 rfl)
theorem Env.m_House_read (T : Env K mg) : Meth K (He.ga K "House") "read" (He.fAd K ("House", some "read")) := He.meth_ok (T.c.fact 79 rfl)
theorem Env.m_House_look (T : Env K mg) : Meth K (He.ga K "House") "look" (He.fAd K ("House", some "look")) := He.meth_ok (T.c.fact 80 rfl)
theorem Env.m_House_let (T : Env K mg) : Meth K (He.ga K "House") "let" (He.fAd K ("House", some "let")) := He.meth_ok (T.c.fact 81 rfl)
theorem Env.m_House_living (T : Env K mg) : Meth K (He.ga K "House") "living" (He.fAd K ("House", some "living")) := He.meth_ok (T.c.fact 82 rfl)
theorem Env.m_House_left (T : Env K mg) : Meth K (He.ga K "House") "left" (He.fAd K ("House", some "left")) := He.meth_ok (T.c.fact 83 rfl)
theorem Env.m_House_told (T : Env K mg) : Meth K (He.ga K "House") "told" (He.fAd K ("House", some "told")) := He.meth_ok (T.c.fact 84 rfl)
theorem Env.m_House_whose (T : Env K mg) : Meth K (He.ga K "House") "whose" (He.fAd K ("House", some "whose")) := He.meth_ok (T.c.fact 85 rfl)
theorem Env.m_House_listed (T : Env K mg) : Meth K (He.ga K "House") "listed" (He.fAd K ("House", some "listed")) := He.meth_ok (T.c.fact 86 rfl)
theorem Env.m_House_sums (T : Env K mg) : Meth K (He.ga K "House") "sums" (He.fAd K ("House", some "sums")) := He.meth_ok (T.c.fact 87 rfl)
theorem Env.g_changing (T : Env K mg) : mg "changing" = some (.ref (He.fAd K ("changing", none))) := by
  obtain ⟨h, X, G⟩ := T.h
  exact He.glo_ok X G (T.c.fact 88 rfl)
theorem Env.g_plain (T : Env K mg) : mg "plain" = some (.ref (He.fAd K ("plain", none))) := by
  obtain ⟨h, X, G⟩ := T.h
  exact He.glo_ok X G (T.c.fact 89 rfl)
theorem Env.g_begun (T : Env K mg) : mg "begun" = some (.ref (He.fAd K ("begun", none))) := by
  obtain ⟨h, X, G⟩ := T.h
  exact He.glo_ok X G (T.c.fact 90 rfl)
theorem Env.g_row_at (T : Env K mg) : mg "row_at" = some (.ref (He.fAd K ("row_at", none))) := by
  obtain ⟨h, X, G⟩ := T.h
  exact He.glo_ok X G (T.c.fact 91 rfl)
theorem Env.g_answers (T : Env K mg) : mg "answers" = some (.ref (He.fAd K ("answers", none))) := by
  obtain ⟨h, X, G⟩ := T.h
  exact He.glo_ok X G (T.c.fact 92 rfl)
theorem Env.g_Asks (T : Env K mg) : mg "Asks" = some (.ref (He.ga K "Asks")) := by
  obtain ⟨h, X, G⟩ := T.h
  exact He.glo_ok X G (T.c.fact 93 rfl)
theorem Env.c_Asks (T : Env K mg) : Cls K (He.ga K "Asks") := He.cls_ok (T.c.fact 94 rfl)
theorem Env.k_Asks (T : Env K mg) : Mk K (He.ga K "Asks") (He.fAd K ("Asks", some "__init__")) := He.mkr_ok (T.c.fact 95 rfl)
theorem Env.n_Asks_answers (T : Env K mg) : NoAttr K (He.ga K "Asks") "answers" := He.noat_ok (T.c.fact 96 rfl)
theorem Env.n_Asks_asked (T : Env K mg) : NoAttr K (He.ga K "Asks") "asked" := He.noat_ok (T.c.fact 97 rfl)
theorem Env.g_Pages (T : Env K mg) : mg "Pages" = some (.ref (He.ga K "Pages")) := by
  obtain ⟨h, X, G⟩ := T.h
  exact He.glo_ok X G (T.c.fact 98 rfl)
theorem Env.c_Pages (T : Env K mg) : Cls K (He.ga K "Pages") := He.cls_ok (T.c.fact 99 rfl)
theorem Env.k_Pages (T : Env K mg) : Mk K (He.ga K "Pages") (He.fAd K ("Pages", some "__init__")) := He.mkr_ok (T.c.fact 100 rfl)
theorem Env.n_Pages_chunk (T : Env K mg) : NoAttr K (He.ga K "Pages") "chunk" := He.noat_ok (T.c.fact 101 rfl)
theorem Env.n_Pages_spare (T : Env K mg) : NoAttr K (He.ga K "Pages") "spare" := He.noat_ok (T.c.fact 102 rfl)
theorem Env.n_Pages_marks (T : Env K mg) : NoAttr K (He.ga K "Pages") "marks" := He.noat_ok (T.c.fact 103 rfl)
theorem Env.n_Pages_runs (T : Env K mg) : NoAttr K (He.ga K "Pages") "runs" := He.noat_ok (T.c.fact 104 rfl)
theorem Env.n_Pages_asked (T : Env K mg) : NoAttr K (He.ga K "Pages") "asked" := He.noat_ok (T.c.fact 105 rfl)
theorem Env.n_Pages_refused (T : Env K mg) : NoAttr K (He.ga K "Pages") "refused" := He.noat_ok (T.c.fact 106 rfl)
theorem Env.n_Pages_came (T : Env K mg) : NoAttr K (He.ga K "Pages") "came" := He.noat_ok (T.c.fact 107 rfl)
theorem Env.n_Pages_went (T : Env K mg) : NoAttr K (He.ga K "Pages") "went" := He.noat_ok (T.c.fact 108 rfl)
theorem Env.n_Pages_most (T : Env K mg) : NoAttr K (He.ga K "Pages") "most" := He.noat_ok (T.c.fact 109 rfl)
theorem Env.g_Run (T : Env K mg) : mg "Run" = some (.ref (He.ga K "Run")) := by
  obtain ⟨h, X, G⟩ := T.h
  exact He.glo_ok X G (T.c.fact 110 rfl)
theorem Env.c_Run (T : Env K mg) : Cls K (He.ga K "Run") := He.cls_ok (T.c.fact 111 rfl)
theorem Env.k_Run (T : Env K mg) : Mk K (He.ga K "Run") (He.fAd K ("Run", some "__init__")) := He.mkr_ok (T.c.fact 112 rfl)
theorem Env.n_Run_first (T : Env K mg) : NoAttr K (He.ga K "Run") "first" := He.noat_ok (T.c.fact 113 rfl)
theorem Env.n_Run_small (T : Env K mg) : NoAttr K (He.ga K "Run") "small" := He.noat_ok (T.c.fact 114 rfl)
theorem Env.n_Run_pages (T : Env K mg) : NoAttr K (He.ga K "Run") "pages" := He.noat_ok (T.c.fact 115 rfl)
theorem Env.n_Run_used (T : Env K mg) : NoAttr K (He.ga K "Run") "used" := He.noat_ok (T.c.fact 116 rfl)
theorem Env.g_Block (T : Env K mg) : mg "Block" = some (.ref (He.ga K "Block")) := by
  obtain ⟨h, X, G⟩ := T.h
  exact He.glo_ok X G (T.c.fact 117 rfl)
theorem Env.c_Block (T : Env K mg) : Cls K (He.ga K "Block") := He.cls_ok (T.c.fact 118 rfl)
theorem Env.k_Block (T : Env K mg) : Mk K (He.ga K "Block") (He.fAd K ("Block", some "__init__")) := He.mkr_ok (T.c.fact 119 rfl)
theorem Env.n_Block_size (T : Env K mg) : NoAttr K (He.ga K "Block") "size" := He.noat_ok (T.c.fact 120 rfl)
theorem Env.n_Block_run (T : Env K mg) : NoAttr K (He.ga K "Block") "run" := He.noat_ok (T.c.fact 121 rfl)
theorem Env.g_Blocks (T : Env K mg) : mg "Blocks" = some (.ref (He.ga K "Blocks")) := by
  obtain ⟨h, X, G⟩ := T.h
  exact He.glo_ok X G (T.c.fact 122 rfl)
theorem Env.c_Blocks (T : Env K mg) : Cls K (He.ga K "Blocks") := He.cls_ok (T.c.fact 123 rfl)
theorem Env.k_Blocks (T : Env K mg) : Mk K (He.ga K "Blocks") (He.fAd K ("Blocks", some "__init__")) := He.mkr_ok (T.c.fact 124 rfl)
theorem Env.n_Blocks_pages (T : Env K mg) : NoAttr K (He.ga K "Blocks") "pages" := He.noat_ok (T.c.fact 125 rfl)
theorem Env.n_Blocks_blocks (T : Env K mg) : NoAttr K (He.ga K "Blocks") "blocks" := He.noat_ok (T.c.fact 126 rfl)
theorem Env.n_Blocks_runs (T : Env K mg) : NoAttr K (He.ga K "Blocks") "runs" := He.noat_ok (T.c.fact 127 rfl)
theorem Env.g_Piece (T : Env K mg) : mg "Piece" = some (.ref (He.ga K "Piece")) := by
  obtain ⟨h, X, G⟩ := T.h
  exact He.glo_ok X G (T.c.fact 128 rfl)
theorem Env.c_Piece (T : Env K mg) : Cls K (He.ga K "Piece") := He.cls_ok (T.c.fact 129 rfl)
theorem Env.k_Piece (T : Env K mg) : Mk K (He.ga K "Piece") (He.fAd K ("Piece", some "__init__")) := He.mkr_ok (T.c.fact 130 rfl)
theorem Env.n_Piece_number (T : Env K mg) : NoAttr K (He.ga K "Piece") "number" := He.noat_ok (T.c.fact 131 rfl)
theorem Env.n_Piece_block (T : Env K mg) : NoAttr K (He.ga K "Piece") "block" := He.noat_ok (T.c.fact 132 rfl)
theorem Env.n_Piece_place (T : Env K mg) : NoAttr K (He.ga K "Piece") "place" := He.noat_ok (T.c.fact 133 rfl)
theorem Env.n_Piece_size (T : Env K mg) : NoAttr K (He.ga K "Piece") "size" := He.noat_ok (T.c.fact 134 rfl)
theorem Env.n_Piece_guard (T : Env K mg) : NoAttr K (He.ga K "Piece") "guard" := He.noat_ok (T.c.fact 135 rfl)
theorem Env.n_Piece_who (T : Env K mg) : NoAttr K (He.ga K "Piece") "who" := He.noat_ok (T.c.fact 136 rfl)
theorem Env.n_Piece_is_held (T : Env K mg) : NoAttr K (He.ga K "Piece") "is_held" := He.noat_ok (T.c.fact 137 rfl)
theorem Env.n_Piece_giver (T : Env K mg) : NoAttr K (He.ga K "Piece") "giver" := He.noat_ok (T.c.fact 138 rfl)
theorem Env.n_Piece_others (T : Env K mg) : NoAttr K (He.ga K "Piece") "others" := He.noat_ok (T.c.fact 139 rfl)
theorem Env.g_House (T : Env K mg) : mg "House" = some (.ref (He.ga K "House")) := by
  obtain ⟨h, X, G⟩ := T.h
  exact He.glo_ok X G (T.c.fact 140 rfl)
theorem Env.c_House (T : Env K mg) : Cls K (He.ga K "House") := He.cls_ok (T.c.fact 141 rfl)
theorem Env.k_House (T : Env K mg) : Mk K (He.ga K "House") (He.fAd K ("House", some "__init__")) := He.mkr_ok (T.c.fact 142 rfl)
theorem Env.n_House_blocks (T : Env K mg) : NoAttr K (He.ga K "House") "blocks" := He.noat_ok (T.c.fact 143 rfl)
theorem Env.n_House_guard (T : Env K mg) : NoAttr K (He.ga K "House") "guard" := He.noat_ok (T.c.fact 144 rfl)
theorem Env.n_House_most_held (T : Env K mg) : NoAttr K (He.ga K "House") "most_held" := He.noat_ok (T.c.fact 145 rfl)
theorem Env.n_House_pieces (T : Env K mg) : NoAttr K (He.ga K "House") "pieces" := He.noat_ok (T.c.fact 146 rfl)
theorem Env.n_House_waiting (T : Env K mg) : NoAttr K (He.ga K "House") "waiting" := He.noat_ok (T.c.fact 147 rfl)
theorem Env.n_House_next_number (T : Env K mg) : NoAttr K (He.ga K "House") "next_number" := He.noat_ok (T.c.fact 148 rfl)
theorem Env.n_House_told_kinds (T : Env K mg) : NoAttr K (He.ga K "House") "told_kinds" := He.noat_ok (T.c.fact 149 rfl)
theorem Env.i_MORE (T : Env K mg) : ∃ t, mg "MORE" = some (.int (1) t) := by
  obtain ⟨h, X, G⟩ := T.h
  exact He.int_ok X G (T.c.fact 150 rfl)
theorem Env.i_LESS (T : Env K mg) : ∃ t, mg "LESS" = some (.int (2) t) := by
  obtain ⟨h, X, G⟩ := T.h
  exact He.int_ok X G (T.c.fact 151 rfl)
theorem Env.i_TELL (T : Env K mg) : ∃ t, mg "TELL" = some (.int (3) t) := by
  obtain ⟨h, X, G⟩ := T.h
  exact He.int_ok X G (T.c.fact 152 rfl)
theorem Env.i_KINDS (T : Env K mg) : ∃ t, mg "KINDS" = some (.int (8) t) := by
  obtain ⟨h, X, G⟩ := T.h
  exact He.int_ok X G (T.c.fact 153 rfl)
theorem Env.i_PAGE (T : Env K mg) : ∃ t, mg "PAGE" = some (.int (4096) t) := by
  obtain ⟨h, X, G⟩ := T.h
  exact He.int_ok X G (T.c.fact 154 rfl)
theorem Env.i_OUTSIDE (T : Env K mg) : ∃ t, mg "OUTSIDE" = some (.int (0) t) := by
  obtain ⟨h, X, G⟩ := T.h
  exact He.int_ok X G (T.c.fact 155 rfl)
theorem Env.i_FREE (T : Env K mg) : ∃ t, mg "FREE" = some (.int (1) t) := by
  obtain ⟨h, X, G⟩ := T.h
  exact He.int_ok X G (T.c.fact 156 rfl)
theorem Env.i_TAKEN (T : Env K mg) : ∃ t, mg "TAKEN" = some (.int (2) t) := by
  obtain ⟨h, X, G⟩ := T.h
  exact He.int_ok X G (T.c.fact 157 rfl)
theorem Env.i_STEP (T : Env K mg) : ∃ t, mg "STEP" = some (.int (16) t) := by
  obtain ⟨h, X, G⟩ := T.h
  exact He.int_ok X G (T.c.fact 158 rfl)
theorem Env.i_FIRST_STEPS (T : Env K mg) : ∃ t, mg "FIRST_STEPS" = some (.int (8) t) := by
  obtain ⟨h, X, G⟩ := T.h
  exact He.int_ok X G (T.c.fact 159 rfl)
theorem Env.i_DOUBLINGS (T : Env K mg) : ∃ t, mg "DOUBLINGS" = some (.int (8) t) := by
  obtain ⟨h, X, G⟩ := T.h
  exact He.int_ok X G (T.c.fact 160 rfl)
theorem Env.i_EIGHTH (T : Env K mg) : ∃ t, mg "EIGHTH" = some (.int (8) t) := by
  obtain ⟨h, X, G⟩ := T.h
  exact He.int_ok X G (T.c.fact 161 rfl)
theorem Env.i_NEW (T : Env K mg) : ∃ t, mg "NEW" = some (.int (205) t) := by
  obtain ⟨h, X, G⟩ := T.h
  exact He.int_ok X G (T.c.fact 162 rfl)
theorem Env.i_GIVEN (T : Env K mg) : ∃ t, mg "GIVEN" = some (.int (221) t) := by
  obtain ⟨h, X, G⟩ := T.h
  exact He.int_ok X G (T.c.fact 163 rfl)
theorem Env.i_FRONT_WRONG (T : Env K mg) : ∃ t, mg "FRONT_WRONG" = some (.int (4) t) := by
  obtain ⟨h, X, G⟩ := T.h
  exact He.int_ok X G (T.c.fact 164 rfl)
theorem Env.i_BACK_WRONG (T : Env K mg) : ∃ t, mg "BACK_WRONG" = some (.int (5) t) := by
  obtain ⟨h, X, G⟩ := T.h
  exact He.int_ok X G (T.c.fact 165 rfl)
theorem Env.i_BYTES_WRONG (T : Env K mg) : ∃ t, mg "BYTES_WRONG" = some (.int (6) t) := by
  obtain ⟨h, X, G⟩ := T.h
  exact He.int_ok X G (T.c.fact 166 rfl)
theorem Env.i_ODD (T : Env K mg) : ∃ t, mg "ODD" = some (.int (-8) t) := by
  obtain ⟨h, X, G⟩ := T.h
  exact He.int_ok X G (T.c.fact 167 rfl)
theorem Env.i_NO_ONE (T : Env K mg) : ∃ t, mg "NO_ONE" = some (.int (-5) t) := by
  obtain ⟨h, X, G⟩ := T.h
  exact He.int_ok X G (T.c.fact 168 rfl)
theorem Env.i_TOO_MANY (T : Env K mg) : ∃ t, mg "TOO_MANY" = some (.int (-6) t) := by
  obtain ⟨h, X, G⟩ := T.h
  exact He.int_ok X G (T.c.fact 169 rfl)
theorem Env.i_FULL (T : Env K mg) : ∃ t, mg "FULL" = some (.int (-7) t) := by
  obtain ⟨h, X, G⟩ := T.h
  exact He.int_ok X G (T.c.fact 170 rfl)
theorem Env.i_TWICE (T : Env K mg) : ∃ t, mg "TWICE" = some (.int (1) t) := by
  obtain ⟨h, X, G⟩ := T.h
  exact He.int_ok X G (T.c.fact 171 rfl)
theorem Env.i_INSIDE (T : Env K mg) : ∃ t, mg "INSIDE" = some (.int (2) t) := by
  obtain ⟨h, X, G⟩ := T.h
  exact He.int_ok X G (T.c.fact 172 rfl)
theorem Env.i_NOWHERE (T : Env K mg) : ∃ t, mg "NOWHERE" = some (.int (3) t) := by
  obtain ⟨h, X, G⟩ := T.h
  exact He.int_ok X G (T.c.fact 173 rfl)
theorem Env.i_LEFT (T : Env K mg) : ∃ t, mg "LEFT" = some (.int (7) t) := by
  obtain ⟨h, X, G⟩ := T.h
  exact He.int_ok X G (T.c.fact 174 rfl)
theorem Env.i_MOST_PIECES (T : Env K mg) : ∃ t, mg "MOST_PIECES" = some (.int (65536) t) := by
  obtain ⟨h, X, G⟩ := T.h
  exact He.int_ok X G (T.c.fact 175 rfl)
theorem Env.g_COUNTS (T : Env K mg) : mg "COUNTS" = some (.ref (He.ga K "COUNTS")) := by
  obtain ⟨h, X, G⟩ := T.h
  exact He.glo_ok X G (T.c.fact 176 rfl)
theorem Env.g_ROWS (T : Env K mg) : mg "ROWS" = some (.ref (He.ga K "ROWS")) := by
  obtain ⟨h, X, G⟩ := T.h
  exact He.glo_ok X G (T.c.fact 177 rfl)
theorem Env.f_len (T : Env K mg) : mg "len" = none := by
  obtain ⟨h, X, G⟩ := T.h
  exact He.free_ok X G (T.c.fact 178 rfl)
theorem Env.f_range (T : Env K mg) : mg "range" = none := by
  obtain ⟨h, X, G⟩ := T.h
  exact He.free_ok X G (T.c.fact 179 rfl)
theorem Env.f_enumerate (T : Env K mg) : mg "enumerate" = none := by
  obtain ⟨h, X, G⟩ := T.h
  exact He.free_ok X G (T.c.fact 180 rfl)
theorem Env.f_sum (T : Env K mg) : mg "sum" = none := by
  obtain ⟨h, X, G⟩ := T.h
  exact He.free_ok X G (T.c.fact 181 rfl)
theorem Env.f_sorted (T : Env K mg) : mg "sorted" = none := by
  obtain ⟨h, X, G⟩ := T.h
  exact He.free_ok X G (T.c.fact 182 rfl)
theorem Env.f_min (T : Env K mg) : mg "min" = none := by
  obtain ⟨h, X, G⟩ := T.h
  exact He.free_ok X G (T.c.fact 183 rfl)
theorem Env.f_max (T : Env K mg) : mg "max" = none := by
  obtain ⟨h, X, G⟩ := T.h
  exact He.free_ok X G (T.c.fact 184 rfl)
theorem Env.f_all (T : Env K mg) : mg "all" = none := by
  obtain ⟨h, X, G⟩ := T.h
  exact He.free_ok X G (T.c.fact 185 rfl)
theorem Env.f_list (T : Env K mg) : mg "list" = none := by
  obtain ⟨h, X, G⟩ := T.h
  exact He.free_ok X G (T.c.fact 186 rfl)
theorem Env.f_int (T : Env K mg) : mg "int" = none := by
  obtain ⟨h, X, G⟩ := T.h
  exact He.free_ok X G (T.c.fact 187 rfl)
theorem Env.t_COUNTS (T : Env K mg) (H : Hp) : SqT K H (He.ga K "COUNTS") [.int 5, .int 3, .int 2, .int 3, .int 1, .int 2, .int 0, .int 0, .int 0, .int 1, .int 1, .int 2, .int 0] := He.tupB_ok (He.ba T.x).1 H
theorem Env.t_ROWS (T : Env K mg) (H : Hp) : SqT K H (He.ga K "ROWS") [.int 1, .int 1, .int 1, .int 1, .int 1, .int 0, .int 1, .int 1, .int 1, .int 0, .int 0, .int 0, .int 0] := He.tupB_ok (He.ba T.x).2 H
end
/-! ### attributes by their places -/
abbrev k_Asks : List Str := ["answers", "asked"]
theorem ix_Asks_answers : k_Asks.findIdx? (· == ("answers" : Str)) = some 0 := by decide +kernel
theorem ix_Asks_asked : k_Asks.findIdx? (· == ("asked" : Str)) = some 1 := by decide +kernel
theorem nx_Asks_answer : k_Asks.findIdx? (· == ("answer" : Str)) = none := by decide +kernel
theorem nx_Asks_more : k_Asks.findIdx? (· == ("more" : Str)) = none := by decide +kernel
theorem nx_Asks_less : k_Asks.findIdx? (· == ("less" : Str)) = none := by decide +kernel
theorem nx_Asks_tell : k_Asks.findIdx? (· == ("tell" : Str)) = none := by decide +kernel
theorem nx_Asks_row : k_Asks.findIdx? (· == ("row" : Str)) = none := by decide +kernel
theorem nz_Asks_answers : ([] : List Str).findIdx? (· == ("answers" : Str)) = none := by decide +kernel
theorem nz_Asks_asked : (["answers"] : List Str).findIdx? (· == ("asked" : Str)) = none := by decide +kernel
abbrev k_Pages : List Str := ["chunk", "spare", "marks", "runs", "asked", "refused", "came", "went", "most"]
theorem ix_Pages_chunk : k_Pages.findIdx? (· == ("chunk" : Str)) = some 0 := by decide +kernel
theorem ix_Pages_spare : k_Pages.findIdx? (· == ("spare" : Str)) = some 1 := by decide +kernel
theorem ix_Pages_marks : k_Pages.findIdx? (· == ("marks" : Str)) = some 2 := by decide +kernel
theorem ix_Pages_runs : k_Pages.findIdx? (· == ("runs" : Str)) = some 3 := by decide +kernel
theorem ix_Pages_asked : k_Pages.findIdx? (· == ("asked" : Str)) = some 4 := by decide +kernel
theorem ix_Pages_refused : k_Pages.findIdx? (· == ("refused" : Str)) = some 5 := by decide +kernel
theorem ix_Pages_came : k_Pages.findIdx? (· == ("came" : Str)) = some 6 := by decide +kernel
theorem ix_Pages_went : k_Pages.findIdx? (· == ("went" : Str)) = some 7 := by decide +kernel
theorem ix_Pages_most : k_Pages.findIdx? (· == ("most" : Str)) = some 8 := by decide +kernel
theorem nx_Pages_count_of : k_Pages.findIdx? (· == ("count_of" : Str)) = none := by decide +kernel
theorem nx_Pages_owned : k_Pages.findIdx? (· == ("owned" : Str)) = none := by decide +kernel
theorem nx_Pages_set_marks : k_Pages.findIdx? (· == ("set_marks" : Str)) = none := by decide +kernel
theorem nx_Pages_own_rows : k_Pages.findIdx? (· == ("own_rows" : Str)) = none := by decide +kernel
theorem nx_Pages_free_place : k_Pages.findIdx? (· == ("free_place" : Str)) = none := by decide +kernel
theorem nx_Pages_highest_free : k_Pages.findIdx? (· == ("highest_free" : Str)) = none := by decide +kernel
theorem nx_Pages_trim : k_Pages.findIdx? (· == ("trim" : Str)) = none := by decide +kernel
theorem nx_Pages_may_come : k_Pages.findIdx? (· == ("may_come" : Str)) = none := by decide +kernel
theorem nx_Pages_ask : k_Pages.findIdx? (· == ("ask" : Str)) = none := by decide +kernel
theorem nx_Pages_place_for : k_Pages.findIdx? (· == ("place_for" : Str)) = none := by decide +kernel
theorem nx_Pages_take : k_Pages.findIdx? (· == ("take" : Str)) = none := by decide +kernel
theorem nx_Pages_give : k_Pages.findIdx? (· == ("give" : Str)) = none := by decide +kernel
theorem nx_Pages_give_back : k_Pages.findIdx? (· == ("give_back" : Str)) = none := by decide +kernel
theorem nx_Pages_sums : k_Pages.findIdx? (· == ("sums" : Str)) = none := by decide +kernel
theorem nz_Pages_chunk : ([] : List Str).findIdx? (· == ("chunk" : Str)) = none := by decide +kernel
theorem nz_Pages_spare : (["chunk"] : List Str).findIdx? (· == ("spare" : Str)) = none := by decide +kernel
theorem nz_Pages_marks : (["chunk", "spare"] : List Str).findIdx? (· == ("marks" : Str)) = none := by decide +kernel
theorem nz_Pages_runs : (["chunk", "spare", "marks"] : List Str).findIdx? (· == ("runs" : Str)) = none := by decide +kernel
theorem nz_Pages_asked : (["chunk", "spare", "marks", "runs"] : List Str).findIdx? (· == ("asked" : Str)) = none := by decide +kernel
theorem nz_Pages_refused : (["chunk", "spare", "marks", "runs", "asked"] : List Str).findIdx? (· == ("refused" : Str)) = none := by decide +kernel
theorem nz_Pages_came : (["chunk", "spare", "marks", "runs", "asked", "refused"] : List Str).findIdx? (· == ("came" : Str)) = none := by decide +kernel
theorem nz_Pages_went : (["chunk", "spare", "marks", "runs", "asked", "refused", "came"] : List Str).findIdx? (· == ("went" : Str)) = none := by decide +kernel
theorem nz_Pages_most : (["chunk", "spare", "marks", "runs", "asked", "refused", "came", "went"] : List Str).findIdx? (· == ("most" : Str)) = none := by decide +kernel
abbrev k_Run : List Str := ["first", "small", "pages", "used"]
theorem ix_Run_first : k_Run.findIdx? (· == ("first" : Str)) = some 0 := by decide +kernel
theorem ix_Run_small : k_Run.findIdx? (· == ("small" : Str)) = some 1 := by decide +kernel
theorem ix_Run_pages : k_Run.findIdx? (· == ("pages" : Str)) = some 2 := by decide +kernel
theorem ix_Run_used : k_Run.findIdx? (· == ("used" : Str)) = some 3 := by decide +kernel
theorem nx_Run_has_free : k_Run.findIdx? (· == ("has_free" : Str)) = none := by decide +kernel
theorem nx_Run_is_empty : k_Run.findIdx? (· == ("is_empty" : Str)) = none := by decide +kernel
theorem nx_Run_place_at : k_Run.findIdx? (· == ("place_at" : Str)) = none := by decide +kernel
theorem nx_Run_number_at : k_Run.findIdx? (· == ("number_at" : Str)) = none := by decide +kernel
theorem nz_Run_first : ([] : List Str).findIdx? (· == ("first" : Str)) = none := by decide +kernel
theorem nz_Run_small : (["first"] : List Str).findIdx? (· == ("small" : Str)) = none := by decide +kernel
theorem nz_Run_pages : (["first", "small"] : List Str).findIdx? (· == ("pages" : Str)) = none := by decide +kernel
theorem nz_Run_used : (["first", "small", "pages"] : List Str).findIdx? (· == ("used" : Str)) = none := by decide +kernel
abbrev k_Block : List Str := ["size", "run"]
theorem ix_Block_size : k_Block.findIdx? (· == ("size" : Str)) = some 0 := by decide +kernel
theorem ix_Block_run : k_Block.findIdx? (· == ("run" : Str)) = some 1 := by decide +kernel
theorem nx_Block_room : k_Block.findIdx? (· == ("room" : Str)) = none := by decide +kernel
theorem nz_Block_size : ([] : List Str).findIdx? (· == ("size" : Str)) = none := by decide +kernel
theorem nz_Block_run : (["size"] : List Str).findIdx? (· == ("run" : Str)) = none := by decide +kernel
abbrev k_Blocks : List Str := ["pages", "blocks", "runs"]
theorem ix_Blocks_pages : k_Blocks.findIdx? (· == ("pages" : Str)) = some 0 := by decide +kernel
theorem ix_Blocks_blocks : k_Blocks.findIdx? (· == ("blocks" : Str)) = some 1 := by decide +kernel
theorem ix_Blocks_runs : k_Blocks.findIdx? (· == ("runs" : Str)) = some 2 := by decide +kernel
theorem nx_Blocks_runs_with_room : k_Blocks.findIdx? (· == ("runs_with_room" : Str)) = none := by decide +kernel
theorem nx_Blocks_run_for : k_Blocks.findIdx? (· == ("run_for" : Str)) = none := by decide +kernel
theorem nx_Blocks_take_small : k_Blocks.findIdx? (· == ("take_small" : Str)) = none := by decide +kernel
theorem nx_Blocks_take_great : k_Blocks.findIdx? (· == ("take_great" : Str)) = none := by decide +kernel
theorem nx_Blocks_take : k_Blocks.findIdx? (· == ("take" : Str)) = none := by decide +kernel
theorem nx_Blocks_give : k_Blocks.findIdx? (· == ("give" : Str)) = none := by decide +kernel
theorem nx_Blocks_run_bytes : k_Blocks.findIdx? (· == ("run_bytes" : Str)) = none := by decide +kernel
theorem nx_Blocks_sums : k_Blocks.findIdx? (· == ("sums" : Str)) = none := by decide +kernel
theorem nz_Blocks_pages : ([] : List Str).findIdx? (· == ("pages" : Str)) = none := by decide +kernel
theorem nz_Blocks_blocks : (["pages"] : List Str).findIdx? (· == ("blocks" : Str)) = none := by decide +kernel
theorem nz_Blocks_runs : (["pages", "blocks"] : List Str).findIdx? (· == ("runs" : Str)) = none := by decide +kernel
abbrev k_Piece : List Str := ["number", "block", "place", "size", "guard", "who", "is_held", "giver", "others"]
theorem ix_Piece_number : k_Piece.findIdx? (· == ("number" : Str)) = some 0 := by decide +kernel
theorem ix_Piece_block : k_Piece.findIdx? (· == ("block" : Str)) = some 1 := by decide +kernel
theorem ix_Piece_place : k_Piece.findIdx? (· == ("place" : Str)) = some 2 := by decide +kernel
theorem ix_Piece_size : k_Piece.findIdx? (· == ("size" : Str)) = some 3 := by decide +kernel
theorem ix_Piece_guard : k_Piece.findIdx? (· == ("guard" : Str)) = some 4 := by decide +kernel
theorem ix_Piece_who : k_Piece.findIdx? (· == ("who" : Str)) = some 5 := by decide +kernel
theorem ix_Piece_is_held : k_Piece.findIdx? (· == ("is_held" : Str)) = some 6 := by decide +kernel
theorem ix_Piece_giver : k_Piece.findIdx? (· == ("giver" : Str)) = some 7 := by decide +kernel
theorem ix_Piece_others : k_Piece.findIdx? (· == ("others" : Str)) = some 8 := by decide +kernel
theorem nx_Piece_end : k_Piece.findIdx? (· == ("end" : Str)) = none := by decide +kernel
theorem nx_Piece_has : k_Piece.findIdx? (· == ("has" : Str)) = none := by decide +kernel
theorem nx_Piece_is_own : k_Piece.findIdx? (· == ("is_own" : Str)) = none := by decide +kernel
theorem nx_Piece_usual : k_Piece.findIdx? (· == ("usual" : Str)) = none := by decide +kernel
theorem nx_Piece_byte : k_Piece.findIdx? (· == ("byte" : Str)) = none := by decide +kernel
theorem nx_Piece_put : k_Piece.findIdx? (· == ("put" : Str)) = none := by decide +kernel
theorem nx_Piece_copy_from : k_Piece.findIdx? (· == ("copy_from" : Str)) = none := by decide +kernel
theorem nx_Piece_hold : k_Piece.findIdx? (· == ("hold" : Str)) = none := by decide +kernel
theorem nx_Piece_wrong_front : k_Piece.findIdx? (· == ("wrong_front" : Str)) = none := by decide +kernel
theorem nx_Piece_wrong_back : k_Piece.findIdx? (· == ("wrong_back" : Str)) = none := by decide +kernel
theorem nx_Piece_wrong_bytes : k_Piece.findIdx? (· == ("wrong_bytes" : Str)) = none := by decide +kernel
theorem nx_Piece_findings : k_Piece.findIdx? (· == ("findings" : Str)) = none := by decide +kernel
theorem nx_Piece_put_right : k_Piece.findIdx? (· == ("put_right" : Str)) = none := by decide +kernel
theorem nx_Piece_state : k_Piece.findIdx? (· == ("state" : Str)) = none := by decide +kernel
theorem nz_Piece_number : ([] : List Str).findIdx? (· == ("number" : Str)) = none := by decide +kernel
theorem nz_Piece_block : (["number"] : List Str).findIdx? (· == ("block" : Str)) = none := by decide +kernel
theorem nz_Piece_place : (["number", "block"] : List Str).findIdx? (· == ("place" : Str)) = none := by decide +kernel
theorem nz_Piece_size : (["number", "block", "place"] : List Str).findIdx? (· == ("size" : Str)) = none := by decide +kernel
theorem nz_Piece_guard : (["number", "block", "place", "size"] : List Str).findIdx? (· == ("guard" : Str)) = none := by decide +kernel
theorem nz_Piece_who : (["number", "block", "place", "size", "guard"] : List Str).findIdx? (· == ("who" : Str)) = none := by decide +kernel
theorem nz_Piece_is_held : (["number", "block", "place", "size", "guard", "who"] : List Str).findIdx? (· == ("is_held" : Str)) = none := by decide +kernel
theorem nz_Piece_giver : (["number", "block", "place", "size", "guard", "who", "is_held"] : List Str).findIdx? (· == ("giver" : Str)) = none := by decide +kernel
theorem nz_Piece_others : (["number", "block", "place", "size", "guard", "who", "is_held", "giver"] : List Str).findIdx? (· == ("others" : Str)) = none := by decide +kernel
abbrev k_House : List Str := ["blocks", "guard", "most_held", "pieces", "waiting", "next_number", "told_kinds"]
theorem ix_House_blocks : k_House.findIdx? (· == ("blocks" : Str)) = some 0 := by decide +kernel
theorem ix_House_guard : k_House.findIdx? (· == ("guard" : Str)) = some 1 := by decide +kernel
theorem ix_House_most_held : k_House.findIdx? (· == ("most_held" : Str)) = some 2 := by decide +kernel
theorem ix_House_pieces : k_House.findIdx? (· == ("pieces" : Str)) = some 3 := by decide +kernel
theorem ix_House_waiting : k_House.findIdx? (· == ("waiting" : Str)) = some 4 := by decide +kernel
theorem ix_House_next_number : k_House.findIdx? (· == ("next_number" : Str)) = some 5 := by decide +kernel
theorem ix_House_told_kinds : k_House.findIdx? (· == ("told_kinds" : Str)) = some 6 := by decide +kernel
theorem nx_House_tell : k_House.findIdx? (· == ("tell" : Str)) = none := by decide +kernel
theorem nx_House_living_at : k_House.findIdx? (· == ("living_at" : Str)) = none := by decide +kernel
theorem nx_House_piece_at : k_House.findIdx? (· == ("piece_at" : Str)) = none := by decide +kernel
theorem nx_House_piece_with : k_House.findIdx? (· == ("piece_with" : Str)) = none := by decide +kernel
theorem nx_House_look_at : k_House.findIdx? (· == ("look_at" : Str)) = none := by decide +kernel
theorem nx_House_held_sizes : k_House.findIdx? (· == ("held_sizes" : Str)) = none := by decide +kernel
theorem nx_House_let_go : k_House.findIdx? (· == ("let_go" : Str)) = none := by decide +kernel
theorem nx_House_new_piece : k_House.findIdx? (· == ("new_piece" : Str)) = none := by decide +kernel
theorem nx_House_take : k_House.findIdx? (· == ("take" : Str)) = none := by decide +kernel
theorem nx_House_give_up : k_House.findIdx? (· == ("give_up" : Str)) = none := by decide +kernel
theorem nx_House_no_piece : k_House.findIdx? (· == ("no_piece" : Str)) = none := by decide +kernel
theorem nx_House_give : k_House.findIdx? (· == ("give" : Str)) = none := by decide +kernel
theorem nx_House_resize : k_House.findIdx? (· == ("resize" : Str)) = none := by decide +kernel
theorem nx_House_write : k_House.findIdx? (· == ("write" : Str)) = none := by decide +kernel
theorem nx_House_read : k_House.findIdx? (· == ("read" : Str)) = none := by decide +kernel
theorem nx_House_look : k_House.findIdx? (· == ("look" : Str)) = none := by decide +kernel
theorem nx_House_let : k_House.findIdx? (· == ("let" : Str)) = none := by decide +kernel
theorem nx_House_living : k_House.findIdx? (· == ("living" : Str)) = none := by decide +kernel
theorem nx_House_left : k_House.findIdx? (· == ("left" : Str)) = none := by decide +kernel
theorem nx_House_told : k_House.findIdx? (· == ("told" : Str)) = none := by decide +kernel
theorem nx_House_whose : k_House.findIdx? (· == ("whose" : Str)) = none := by decide +kernel
theorem nx_House_listed : k_House.findIdx? (· == ("listed" : Str)) = none := by decide +kernel
theorem nx_House_sums : k_House.findIdx? (· == ("sums" : Str)) = none := by decide +kernel
theorem nz_House_blocks : ([] : List Str).findIdx? (· == ("blocks" : Str)) = none := by decide +kernel
theorem nz_House_guard : (["blocks"] : List Str).findIdx? (· == ("guard" : Str)) = none := by decide +kernel
theorem nz_House_most_held : (["blocks", "guard"] : List Str).findIdx? (· == ("most_held" : Str)) = none := by decide +kernel
theorem nz_House_pieces : (["blocks", "guard", "most_held"] : List Str).findIdx? (· == ("pieces" : Str)) = none := by decide +kernel
theorem nz_House_waiting : (["blocks", "guard", "most_held", "pieces"] : List Str).findIdx? (· == ("waiting" : Str)) = none := by decide +kernel
theorem nz_House_next_number : (["blocks", "guard", "most_held", "pieces", "waiting"] : List Str).findIdx? (· == ("next_number" : Str)) = none := by decide +kernel
theorem nz_House_told_kinds : (["blocks", "guard", "most_held", "pieces", "waiting", "next_number"] : List Str).findIdx? (· == ("told_kinds" : Str)) = none := by decide +kernel
end GK
end
section
set_option linter.all false
/-! ### The mirror: the program as plain functions; none where the program's own rules would not let it go on -/
namespace GK
/-- as many items as a list holds -/
abbrev LIM : Nat := 16777216
/-! #### asks -/
structure MAsks where
  ans : List Int
  rows : List (List Int)
def MAsks.push (m : MAsks) (x : List Int) : Option (MAsks × Int) := if m.rows.length < LIM then some (⟨m.ans, m.rows ++ [x]⟩, (m.ans[m.rows.length]?).getD 0) else none
def MAsks.more (m : MAsks) (n : Int) : Option (MAsks × Int) := m.push [1, n]
def MAsks.less (m : MAsks) (p n : Int) : Option MAsks := (m.push [2, p, n]).map Prod.fst
def MAsks.tell (m : MAsks) (k p a b w : Int) : Option MAsks := (m.push [3, k, p, a, b, w]).map Prod.fst
/-- how many asks there were, and each of them -/
def rowOf (xs : List (List Int)) : List Int := (xs.length : Int) :: xs.flatten
/-! #### dicts with whole numbers for keys -/
section
variable {β : Type}
def look (l : List (Int × β)) (k : Int) : Option β := (l.find? fun p => decide (p.1 = k)).map (·.2)
def del (l : List (Int × β)) (k : Int) : List (Int × β) := l.filter fun p => decide (p.1 ≠ k)
def put (l : List (Int × β)) (k : Int) (v : β) : List (Int × β) := if (l.any fun p => decide (p.1 = k)) = true then l.map (fun p => if p.1 = k then (p.1, v) else p) else l ++ [(k, v)]
end
/-! #### pages -/
structure MPages where
  chunk : Int
  spare : Int
  marks : List Int
  runs : List (Int × Int)
  asked : Int
  refused : Int
  came : Int
  went : Int
  most : Int
def MPages.new (size chunk spare : Int) : MPages := ⟨chunk, spare, List.replicate size.toNat 0, [], 0, 0, 0, 0, 0⟩
def countM (l : List Int) (k : Int) : Int := ((l.filter fun x => decide (x = k)).length : Int)
def ownedM (l : List Int) : Int := (l.length : Int) - countM l 0
def setM (l : List Int) (f n : Nat) (k : Int) : List Int := l.mapIdx fun i x => if f ≤ i ∧ i < f + n then k else x
def MPages.setMarks (m : MPages) (first many k : Int) : Option MPages := if 0 ≤ first ∧ 0 ≤ many ∧ first + many ≤ (m.marks.length : Int) then some { m with marks := setM m.marks first.toNat many.toNat k } else none
def ownStep (f : List (Int × Int)) (i : Int) (x : Int) : List (Int × Int) := if x = 0 then f else match f.getLast? with
  | some p => if p.1 + p.2 = i then f.dropLast ++ [(p.1, p.2 + 1)] else f ++ [(i, 1)]
  | none => f ++ [(i, 1)]
def ownGo : List Int → Int → List (Int × Int) → List (Int × Int)
  | [], _, f => f
  | x :: l, i, f => ownGo l (i + 1) (ownStep f i x)
def ownRows (l : List Int) : List (Int × Int) := ownGo l 0 []
def fpGo (many : Int) : List Int → Int → Int → Option Int
  | [], _, _ => none
  | x :: l, page, row => if (if x = 1 then row + 1 else 0) = many then some (page + 1 - many) else fpGo many l (page + 1) (if x = 1 then row + 1 else 0)
def freePlace (l : List Int) (many : Int) : Option Int := fpGo many l 0 0
def hiEnd (l : List Int) : Nat → Nat
  | 0 => 0
  | n + 1 => if l[n]? = some 1 then n + 1 else hiEnd l n
def hiFirst (l : List Int) : Nat → Nat
  | 0 => 0
  | n + 1 => if l[n]? = some 1 then hiFirst l n else n + 1
def hiE (l : List Int) : Nat := hiEnd l l.length
def hiF (l : List Int) : Nat := hiFirst l (hiE l)
/-- how many pages go at once -/
def goneM (l : List Int) (left : Int) : Int := if (hiE l : Int) - (hiF l : Int) < left then (hiE l : Int) - (hiF l : Int) else left
def beginM (l : List Int) (left : Int) : Int := (hiF l : Int) + ((hiE l : Int) - (hiF l : Int)) - goneM l left
def trimL : Nat → MAsks → MPages → Int → Option (MAsks × MPages)
  | 0, A, m, left => if 0 < left then none else some (A, m)
  | n + 1, A, m, left => if 0 < left then (m.setMarks (beginM m.marks left) (goneM m.marks left) 0).bind fun m1 => (A.less (beginM m.marks left) (goneM m.marks left)).bind fun A1 =>
      trimL n A1 { m1 with went := m1.went + goneM m.marks left } (left - goneM m.marks left)
    else some (A, m)
def MPages.trim (A : MAsks) (m : MPages) (keep : Int) : Option (MAsks × MPages) := trimL (countM m.marks 1 - keep).toNat A m (countM m.marks 1 - keep)
def mayCome (l : List Int) (first many : Int) : Bool := if first < 0 ∨ (l.length : Int) < first + many then false else ((l.drop first.toNat).take many.toNat).all fun x => decide (x = 0)
def MPages.ask (A : MAsks) (m : MPages) (many : Int) : Option (MAsks × MPages × Bool) := if many < 0 ∨ 1000000 < many then none else (A.more many).bind fun x =>
  if mayCome m.marks x.2 many = true then ({ m with asked := m.asked + 1 }.setMarks x.2 many 1).bind fun m2 => some (x.1, { m2 with came := m2.came + many, most := if m2.most < ownedM m2.marks then ownedM m2.marks else m2.most }, true)
  else some (x.1, { m with asked := m.asked + 1, refused := m.refused + 1 }, false)
def MPages.placeFor (A : MAsks) (m : MPages) (many : Int) : Option (MAsks × MPages × Option Int) := match freePlace m.marks many with
  | some p => some (A, m, some p)
  | none => (m.ask A (if m.chunk < many then many else m.chunk)).bind fun x => if x.2.2 = false ∧ many < x.2.1.chunk then (x.2.1.ask x.1 many).bind fun y => some (y.1, y.2.1, freePlace y.2.1.marks many)
    else some (x.1, x.2.1, freePlace x.2.1.marks many)
def MPages.take (A : MAsks) (m : MPages) (many : Int) : Option (MAsks × MPages × Option Int) := (m.placeFor A many).bind fun x => match x.2.2 with
  | none => some (x.1, x.2.1, none)
  | some p => (x.2.1.setMarks p many 2).bind fun m2 => if m2.runs.length < LIM then some (x.1, { m2 with runs := put m2.runs p many }, some p) else none
def MPages.give (A : MAsks) (m : MPages) (first : Int) : Option (MAsks × MPages) := (look m.runs first).bind fun many => ({ m with runs := del m.runs first }.setMarks first many 1).bind fun m1 => m1.trim A m1.spare
def backL : MAsks → List (Int × Int) → Option MAsks
  | A, [] => some A
  | A, x :: l => (A.less x.1 x.2).bind fun A1 => backL A1 l
def MPages.giveBack (A : MAsks) (m : MPages) : Option MAsks := backL A (ownRows m.marks)
def MPages.sums (m : MPages) : List Int := [countM m.marks 1 + countM m.marks 2, countM m.marks 1, countM m.marks 2, m.asked, m.refused, m.came, m.went, m.most]
/-! #### blocks -/
structure MRun where
  first : Int
  small : Int
  pages : Int
  used : List Bool
structure MBlock where
  size : Int
  run : Option Int
structure MBlocks where
  pg : MPages
  blocks : List (Int × MBlock)
  runs : List (Int × MRun)
def smallSizes : List Int := ((List.range 8).map fun (k : Nat) => 16 * ((k : Int) + 1)) ++ (List.range 8).flatMap fun (d : Nat) => (List.range 4).map fun (k : Nat) => 128 * 2 ^ d + (128 * 2 ^ d : Int).fdiv 4 * (1 + (k : Int))
def sizeFor (size multiple : Int) : Option Int := smallSizes.find? fun z => decide (size ≤ z) && decide (z % multiple = 0)
def restOf (pages small : Int) : Int := pages * 4096 - (pages * 4096).fdiv small * small
def rpGo (small : Int) : Nat → Int → Option Int
  | 0, _ => none
  | n + 1, pages => if pages * 4096 < 8 * restOf pages small then rpGo small n (pages + 1) else some pages
/-- a size is one of the small ones' kind: positive, not too great -/
def runPages (small : Int) : Option Int := if 0 < small ∧ small ≤ 1000000 then rpGo small 64 1 else none
def pagesOf (size : Int) : Int := (size + 4096 - 1).fdiv 4096
def MRun.new (first small : Int) : Option MRun := (runPages small).bind fun p => if (p * 4096).fdiv small ≤ 1000000 then some ⟨first, small, p, List.replicate ((p * 4096).fdiv small).toNat false⟩ else none
def MRun.hasFree (r : MRun) : Bool := r.used.any fun b => !b
def MRun.isEmpty (r : MRun) : Bool := !(r.used.any fun b => b)
def MRun.placeAt (r : MRun) (k : Int) : Int := r.first * 4096 + k * r.small
def MRun.numberAt (r : MRun) (place : Int) : Int := (place - r.first * 4096).fdiv r.small
def isort (l : List Int) : List Int := l.mergeSort fun a b => decide (a ≤ b)
def runsWithRoom (l : List (Int × MRun)) (small : Int) : List Int := (isort (l.map (·.1))).filter fun f => match look l f with
  | some r => decide (r.small = small) && r.hasFree
  | none => false
def MBlocks.runFor (A : MAsks) (B : MBlocks) (small : Int) : Option (MAsks × MBlocks × Option Int) := match runsWithRoom B.runs small with
  | f :: _ => some (A, B, some f)
  | [] => (runPages small).bind fun p => (B.pg.take A p).bind fun x => match x.2.2 with
    | none => some (x.1, { B with pg := x.2.1 }, none)
    | some f => (MRun.new f small).bind fun r => if B.runs.length < LIM ∧ (look B.runs f).isSome = false ∧ (B.blocks.all fun b => decide (b.2.run ≠ some f)) = true then some (x.1, { B with pg := x.2.1, runs := B.runs ++ [(f, r)] }, some f) else none
def MBlocks.takeSmall (A : MAsks) (B : MBlocks) (size small : Int) : Option (MAsks × MBlocks × Option Int) := (B.runFor A small).bind fun x => match x.2.2 with
  | none => some (x.1, x.2.1, none)
  | some f => (look x.2.1.runs f).bind fun r => (r.used.findIdx? fun b => !b).bind fun k => if x.2.1.blocks.length < LIM ∧ (look x.2.1.blocks (r.placeAt k)).isSome = false ∧ 0 ≤ r.small ∧ r.small ≤ 1000000 then
      some (x.1, { x.2.1 with runs := put x.2.1.runs f { r with used := r.used.set k true }, blocks := x.2.1.blocks ++ [(r.placeAt k, ⟨size, some f⟩)] }, some (r.placeAt k)) else none
def MBlocks.takeGreat (A : MAsks) (B : MBlocks) (size : Int) : Option (MAsks × MBlocks × Option Int) := (B.pg.take A (pagesOf size)).bind fun x => match x.2.2 with
  | none => some (x.1, { B with pg := x.2.1 }, none)
  | some f => if B.blocks.length < LIM ∧ (look B.blocks (f * 4096)).isSome = false then some (x.1, { B with pg := x.2.1, blocks := B.blocks ++ [(f * 4096, ⟨size, none⟩)] }, some (f * 4096)) else none
def MBlocks.take (A : MAsks) (B : MBlocks) (size multiple : Int) : Option (MAsks × MBlocks × Option Int) := match sizeFor size multiple with
  | none => B.takeGreat A size
  | some z => B.takeSmall A size z
def MBlocks.give (A : MAsks) (B : MBlocks) (place : Int) : Option (MAsks × MBlocks) := (look B.blocks place).bind fun b => match b.run with
  | none => (B.pg.give A (place.fdiv 4096)).bind fun x => some (x.1, { B with blocks := del B.blocks place, pg := x.2 })
  | some f => (look B.runs f).bind fun r => if 0 < r.small ∧ r.small ≤ 1000000 ∧ 0 ≤ r.numberAt place ∧ r.numberAt place < (r.used.length : Int) ∧ r.first = f then
      (let r2 : MRun := { r with used := r.used.set (r.numberAt place).toNat false }
       let rs := put B.runs f r2
       if r2.isEmpty = true ∧ 1 < (runsWithRoom rs r.small).length then (B.pg.give A f).bind fun x => some (x.1, { B with blocks := del B.blocks place, runs := del rs f, pg := x.2 })
       else some (A, { B with blocks := del B.blocks place, runs := rs })) else none
/-- how many bytes a block's place has -/
def roomOf (rs : List (Int × MRun)) (b : MBlock) : Option Int := match b.run with
  | none => some (pagesOf b.size * 4096)
  | some f => (look rs f).map MRun.small
def roomsOf (rs : List (Int × MRun)) : List (Int × MBlock) → Option (List Int)
  | [] => some []
  | b :: l => (roomOf rs b.2).bind fun x => (roomsOf rs l).map fun xs => x :: xs
def greatBytes : List (Int × MBlock) → Int
  | [] => 0
  | b :: l => (match b.2.run with
    | none => pagesOf b.2.size * 4096
    | some _ => 0) + greatBytes l
def MBlocks.runBytes (B : MBlocks) : Int := (B.runs.map fun p => p.2.pages).sum * 4096 + greatBytes B.blocks
def MBlocks.sums (B : MBlocks) : Option (List Int) := (roomsOf B.runs B.blocks).map fun rooms => [(B.blocks.length : Int), (B.blocks.map fun p => p.2.size).sum, rooms.sum, B.runBytes] ++ B.pg.sums
/-! #### pieces -/
structure MPiece where
  number : Int
  block : Int
  place : Int
  size : Int
  guard : Int
  who : Int
  held : Bool
  giver : Int
  others : List (Int × Int)
def guardByte (x : Int) : Int := (37 * x + 11) % 256
def MPiece.end_ (p : MPiece) : Int := p.place + p.size
def MPiece.has (p : MPiece) (at_ many : Int) : Bool := decide (p.block ≤ at_) && decide (at_ + many ≤ p.end_ + p.guard)
def MPiece.isOwn (p : MPiece) (at_ : Int) : Bool := decide (p.place ≤ at_) && decide (at_ < p.end_)
def MPiece.usual (p : MPiece) (at_ : Int) : Int := if p.isOwn at_ = true then (if p.held = true then 221 else 205) else guardByte at_
def MPiece.byte (p : MPiece) (at_ : Int) : Int := (look p.others at_).getD (p.usual at_)
def MPiece.put (p : MPiece) (at_ b : Int) : Option MPiece := if b ≠ p.usual at_ then (if p.others.length < 4000000 then some { p with others := GK.put p.others at_ b } else none)
  else if (look p.others at_).isSome = true then some { p with others := del p.others at_ } else some p
def MPiece.putAll (p : MPiece) : Int → List Int → Option MPiece
  | _, [] => some p
  | at_, b :: l => (p.put at_ b).bind fun p1 => p1.putAll (at_ + 1) l
/-- the bytes that both have are as another piece's: o that one, l what of its others is still to be gone through -/
def MPiece.copyL (o : MPiece) : MPiece → List (Int × Int) → Option MPiece
  | p, [] => some p
  | p, x :: l => if o.isOwn x.1 = true ∧ x.1 - o.place < p.size then (p.put (p.place + x.1 - o.place) x.2).bind fun p1 => MPiece.copyL o p1 l else MPiece.copyL o p l
def MPiece.copyFrom (p o : MPiece) : Option MPiece := MPiece.copyL o p o.others
def MPiece.hold (p : MPiece) (who : Int) : MPiece := { p with others := p.others.filter fun x => !p.isOwn x.1, held := true, giver := who }
def MPiece.wrongFront (p : MPiece) : List Int := isort ((p.others.map (·.1)).filter fun x => decide (x < p.place))
def MPiece.wrongBack (p : MPiece) : List Int := isort ((p.others.map (·.1)).filter fun x => decide (p.end_ ≤ x))
def MPiece.wrongBytes (p : MPiece) : List Int := if p.held = true then isort ((p.others.map (·.1)).filter fun x => p.isOwn x) else []
def MPiece.findings (p : MPiece) : List (Int × Int × Int × Int) :=
  (match p.wrongFront.getLast? with
    | none => []
    | some x => [(4, p.place - x, (p.wrongFront.length : Int), p.who)]) ++
  ((match p.wrongBack with
    | [] => []
    | x :: _ => [(5, x - p.end_ + 1, (p.wrongBack.length : Int), p.who)]) ++
  (match p.wrongBytes with
    | [] => []
    | x :: _ => [(6, x - p.place, (p.wrongBytes.length : Int), p.giver)]))
def popAll : List Int → List (Int × Int) → Option (List (Int × Int))
  | [], o => some o
  | a :: l, o => if (look o a).isSome = true then popAll l (del o a) else none
def MPiece.putRight (p : MPiece) : Option MPiece := (popAll (p.wrongFront ++ p.wrongBack ++ p.wrongBytes) p.others).map fun o => { p with others := o }
def MPiece.state (p : MPiece) : Int := if p.held = true then 1 else 0
/-! #### the house; dead: the pieces that have gone (nothing asks for them again, but what was held of them stands) -/
structure MHouse where
  bl : MBlocks
  guard : Int
  mostHeld : Int
  pieces : List (Int × MPiece)
  waiting : List Int
  next : Int
  kinds : List Int
  dead : List (Int × MPiece)
def MHouse.new (size chunk spare guard hold : Int) : MHouse := ⟨⟨MPages.new size chunk spare, [], []⟩, guard, hold, [], [], 0, List.replicate 8 0, []⟩
def MHouse.tell (A : MAsks) (h : MHouse) (kind place a b who : Int) : Option (MAsks × MHouse) := (h.kinds[kind.toNat]?).bind fun n => if 0 ≤ kind then
  (A.tell kind place a b who).bind fun A1 => some (A1, { h with kinds := h.kinds.set kind.toNat (n + 1) }) else none
def livingAt (l : List (Int × MPiece)) (place : Int) : Option (Int × MPiece) := l.find? fun p => decide (p.2.place = place) && !p.2.held
def pieceAt (l : List (Int × MPiece)) (place : Int) : Option (Int × MPiece) := l.find? fun p => decide (p.2.place = place)
def pieceWith (l : List (Int × MPiece)) (at_ many : Int) : Option (Int × MPiece) := l.find? fun p => p.2.has at_ many
def tellL (place : Int) : MAsks → MHouse → List (Int × Int × Int × Int) → Option (MAsks × MHouse)
  | A, h, [] => some (A, h)
  | A, h, x :: l => (h.tell A x.1 place x.2.1 x.2.2.1 x.2.2.2).bind fun y => tellL place y.1 y.2 l
/-- a piece that the house has is looked at -/
def MHouse.lookAt (A : MAsks) (h : MHouse) (n : Int) : Option (MAsks × MHouse × Int) := (look h.pieces n).bind fun p => (tellL p.place A h p.findings).bind fun x => p.putRight.bind fun p1 =>
  some (x.1, { x.2 with pieces := put x.2.pieces n p1 }, (p.findings.length : Int))
def sizesOf (l : List (Int × MPiece)) : List Int → Option (List Int)
  | [] => some []
  | n :: ns => (look l n).bind fun p => (sizesOf l ns).map fun xs => p.size :: xs
def MHouse.heldSizes (h : MHouse) : Option Int := (sizesOf h.pieces h.waiting).map List.sum
def MHouse.letGo (A : MAsks) (h : MHouse) : Option (MAsks × MHouse) := match h.waiting with
  | [] => none
  | n :: ns => ({ h with waiting := ns }.lookAt A n).bind fun x => (look x.2.1.pieces n).bind fun p => if p.number = n ∧ (look x.2.1.dead n).isSome = false then
    (x.2.1.bl.give x.1 p.block).bind fun y => some (y.1, { x.2.1 with pieces := del x.2.1.pieces n, dead := x.2.1.dead ++ [(n, p)], bl := y.2 }) else none
def frontOf (guard multiple : Int) : Int := (guard + multiple - 1).fdiv multiple * multiple
def MHouse.newPiece (A : MAsks) (h : MHouse) (size multiple who : Int) : Option (MAsks × MHouse × Option Int) := (h.bl.take A (frontOf h.guard multiple + size + h.guard) multiple).bind fun x => match x.2.2 with
  | none => some (x.1, { h with bl := x.2.1 }, none)
  | some b => if h.pieces.length < LIM ∧ (look h.pieces h.next).isSome = false ∧ (look h.dead h.next).isSome = false then
      some (x.1, { h with bl := x.2.1, pieces := h.pieces ++ [(h.next, ⟨h.next, b, b + frontOf h.guard multiple, size, h.guard, who, false, 0, []⟩)], next := h.next + 1 }, some h.next) else none
def isFrom (x lo hi : Int) : Bool := decide (lo ≤ x) && decide (x ≤ hi)
def isWho (x : Int) : Bool := isFrom x 0 4294967295
def isPlace (x : Int) : Bool := isFrom x 0 1099511627775
def isSize (x : Int) : Bool := isFrom x 0 1048576
abbrev Res : Type := Option (MAsks × MHouse × List Int)
def MHouse.take (A : MAsks) (h : MHouse) (size e who : Int) : Res := if (isSize size && (isFrom e 4 12 && isWho who)) = false then some (A, h, [-8]) else if (h.pieces.length : Int) = 65536 then some (A, h, [-6]) else
  (h.newPiece A size (2 ^ e.toNat) who).bind fun x => match x.2.2 with
    | none => some (x.1, x.2.1, [-7])
    | some n => (look x.2.1.pieces n).map fun p => (x.1, x.2.1, [p.place])
def letL : Nat → MAsks → MHouse → Option (MAsks × MHouse)
  | 0, A, h => h.heldSizes.bind fun z => if h.mostHeld < z then none else some (A, h)
  | f + 1, A, h => h.heldSizes.bind fun z => if h.mostHeld < z then (h.letGo A).bind fun x => letL f x.1 x.2 else some (A, h)
def MHouse.giveUp (A : MAsks) (h : MHouse) (n who : Int) : Option (MAsks × MHouse) := (h.lookAt A n).bind fun x => (look x.2.1.pieces n).bind fun p => if p.number = n ∧ x.2.1.waiting.length < LIM then
  letL (x.2.1.waiting.length + 1) x.1 { x.2.1 with pieces := put x.2.1.pieces n (p.hold who), waiting := x.2.1.waiting ++ [n] } else none
def MHouse.noPiece (A : MAsks) (h : MHouse) (place who : Int) : Res := match pieceAt h.pieces place with
  | some p => (h.tell A 1 place p.2.number p.2.giver who).map fun x => (x.1, x.2, [-1])
  | none => match pieceWith h.pieces place 1 with
    | some p => (h.tell A 2 place p.2.number (place - p.2.place) who).map fun x => (x.1, x.2, [-2])
    | none => (h.tell A 3 place 0 0 who).map fun x => (x.1, x.2, [-3])
/-- a piece that the house has, or one that has gone -/
def MHouse.find (h : MHouse) (n : Int) : Option MPiece := look (h.pieces ++ h.dead) n
def MHouse.give (A : MAsks) (h : MHouse) (place who : Int) : Res := if (isPlace place && isWho who) = false then some (A, h, [-8]) else match livingAt h.pieces place with
  | none => h.noPiece A place who
  | some p => (h.giveUp A p.1 who).bind fun x => (x.2.find p.1).map fun p1 => (x.1, x.2, [p1.size])
def MHouse.resize (A : MAsks) (h : MHouse) (place size who : Int) : Res := if (isPlace place && (isSize size && isWho who)) = false then some (A, h, [-8]) else match livingAt h.pieces place with
  | none => h.noPiece A place who
  | some p => if (h.pieces.length : Int) = 65536 then some (A, h, [-6]) else (h.newPiece A size 16 who).bind fun x => match x.2.2 with
    | none => some (x.1, x.2.1, [-7])
    | some n => (look x.2.1.pieces n).bind fun o => (look x.2.1.pieces p.1).bind fun p1 => if n = p.1 then none else (o.copyFrom p1).bind fun o1 => ({ x.2.1 with pieces := put x.2.1.pieces n o1 }.giveUp x.1 p.1 who).bind fun y => (y.2.find n).map fun (o2 : MPiece) => (y.1, y.2, [o2.place])
def MHouse.write (h : MHouse) (at_ : Int) (row : List Int) : Option (MHouse × List Int) := if row = [] then some (h, [0]) else match pieceWith h.pieces at_ (row.length : Int) with
  | none => some (h, [-5])
  | some p => (p.2.putAll at_ row).map fun p1 => ({ h with pieces := put h.pieces p.1 p1 }, [0])
def MHouse.read (h : MHouse) (at_ many : Int) : List Int := if isFrom many 0 4096 = false then [-8] else if many = 0 then [0] else match pieceWith h.pieces at_ many with
  | none => [-5]
  | some p => 0 :: (List.range many.toNat).map fun (k : Nat) => p.2.byte (at_ + (k : Int))
def lookL : MAsks → MHouse → List Int → Option (MAsks × MHouse × List Int)
  | A, h, [] => some (A, h, [])
  | A, h, n :: l => (h.lookAt A n).bind fun x => (lookL x.1 x.2.1 l).map fun y => (y.1, y.2.1, x.2.2 :: y.2.2)
def MHouse.look_ (A : MAsks) (h : MHouse) : Res := (lookL A h (isort (h.pieces.map (·.1)))).map fun x => (x.1, x.2.1, [x.2.2.sum])
def letN : Nat → MAsks → MHouse → Option (MAsks × MHouse)
  | 0, A, h => some (A, h)
  | f + 1, A, h => (h.letGo A).bind fun x => letN f x.1 x.2
def MHouse.let_ (A : MAsks) (h : MHouse) : Res := (letN h.waiting.length A h).map fun x => (x.1, x.2, [(h.waiting.length : Int)])
/-- the numbers of those that live, rising -/
def livingOf (l : List (Int × MPiece)) : List Int := (isort (l.map (·.1))).filter fun n => match look l n with
  | some p => !p.held
  | none => false
def leftL : MAsks → MHouse → List Int → Option (MAsks × MHouse)
  | A, h, [] => some (A, h)
  | A, h, n :: l => (look h.pieces n).bind fun p => (h.tell A 7 p.place p.size p.number p.who).bind fun x => leftL x.1 x.2 l
def MHouse.left (A : MAsks) (h : MHouse) : Res := (leftL A h (livingOf h.pieces)).map fun x => (x.1, x.2, [((livingOf h.pieces).length : Int)])
def MHouse.told (h : MHouse) (place : Int) : List Int := if isPlace place = false then [-8] else match pieceAt h.pieces place with
  | none => [-5]
  | some p => [p.2.number, p.2.size, p.2.state, p.2.who, p.2.giver]
def MHouse.whose (h : MHouse) (at_ : Int) : List Int := if isPlace at_ = false then [-8] else match pieceWith h.pieces at_ 1 with
  | none => [-5]
  | some p => [p.2.number, p.2.place, at_ - p.2.place, p.2.size, p.2.state]
def listL (l : List (Int × MPiece)) : List Int → Option (List Int)
  | [] => some []
  | n :: ns => (look l n).bind fun p => (listL l ns).map fun xs => [p.place, p.size, p.state] ++ xs
def MHouse.listed (h : MHouse) (low most : Int) : Option (List Int) := if low < 0 ∨ isFrom most 0 1024 = false then some [-8] else
  (listL h.pieces (((isort (h.pieces.map (·.1))).drop low.toNat).take most.toNat)).map fun xs => (h.pieces.length : Int) :: xs
def MHouse.sums (h : MHouse) : Option (List Int) := (sizesOf h.pieces (livingOf h.pieces)).bind fun ss => h.heldSizes.bind fun hs => h.bl.sums.bind fun bs =>
  some ([0, ((livingOf h.pieces).length : Int), ss.sum, (h.waiting.length : Int), hs] ++ h.kinds.drop 1 ++ bs)
/-! #### the calls -/
def MHouse.changing (A : MAsks) (h : MHouse) (call : Int) (n : List Int) : Res :=
  if call = 1 then h.take A (n.getD 0 0) (n.getD 1 0) (n.getD 2 0) else if call = 2 then h.give A (n.getD 0 0) (n.getD 1 0) else if call = 3 then h.resize A (n.getD 0 0) (n.getD 1 0) (n.getD 2 0)
  else if call = 6 then h.look_ A else if call = 7 then h.let_ A else h.left A
def MHouse.plain (h : MHouse) (call : Int) (n row : List Int) : Option (MHouse × List Int) :=
  if call = 4 then h.write (n.getD 0 0) row else if call = 5 then some (h, h.read (n.getD 0 0) (n.getD 1 0)) else if call = 9 then some (h, h.told (n.getD 0 0)) else if call = 10 then some (h, h.whose (n.getD 0 0))
  else if call = 11 then (h.listed (n.getD 0 0) (n.getD 1 0)).map fun x => (h, x) else h.sums.map fun x => (h, x)
def isBegin (size chunk spare guard hold : Int) : Bool := isFrom size 1 16384 && (isFrom chunk 1 1024 && (isFrom spare 0 16384 && (isFrom guard 16 4096 && (decide (guard % 16 = 0) && isFrom hold 0 16777216))))
def begun (A : MAsks) (h : Option MHouse) (n : List Int) : Option (MAsks × Option MHouse × List Int) := match n with
  | [size, chunk, spare, guard, hold] => if isBegin size chunk spare guard hold = false then some (A, h, [-8]) else (match h with
      | none => some A
      | some x => x.bl.pg.giveBack A).map fun A1 => (A1, some (MHouse.new size chunk spare guard hold), [0])
  | _ => none
def countsT : List Nat := [5, 3, 2, 3, 1, 2, 0, 0, 0, 1, 1, 2, 0]
def rowsT : List Nat := [1, 1, 1, 1, 1, 0, 1, 1, 1, 0, 0, 0, 0]
def rowAt (calls : List Int) (at_ : Nat) (has : Nat) : Option (List Int × Nat) := if has = 1 then (calls[at_]?).bind fun n => if 0 ≤ n then some ((calls.drop (at_ + 1)).take n.toNat, at_ + 1 + n.toNat) else none else some ([], at_)
/-- one call: the house then, all that is told -/
def oneCall (h : Option MHouse) (call : Int) (numbers row : List Int) : Option (Option MHouse × List Int) :=
  if call = 0 then (begun ⟨row, []⟩ h numbers).bind fun x => if (rowOf x.1.rows).length + x.2.2.length ≤ LIM then some (x.2.1, rowOf x.1.rows ++ x.2.2) else none
  else if call = 1 ∨ call = 2 ∨ call = 3 ∨ call = 6 ∨ call = 7 ∨ call = 8 then h.bind fun h => (h.changing ⟨row, []⟩ call numbers).bind fun x => if (rowOf x.1.rows).length + x.2.2.length ≤ LIM then some (some x.2.1, rowOf x.1.rows ++ x.2.2) else none
  else h.bind fun h => (h.plain call numbers row).bind fun x => if 1 + x.2.length ≤ LIM then some (some x.1, rowOf [] ++ x.2) else none
def mainL : Nat → List Int → Nat → Option MHouse → List Int → Option (List Int)
  | 0, calls, at_, _, found => if at_ < calls.length then none else some found
  | f + 1, calls, at_, h, found => if at_ < calls.length then (calls[at_]?).bind fun call => if 0 ≤ call ∧ call ≤ 12 ∧ at_ + 1 + countsT.getD call.toNat 0 ≤ calls.length then
      (rowAt calls (at_ + 1 + countsT.getD call.toNat 0) (rowsT.getD call.toNat 0)).bind fun r => (oneCall h call ((calls.drop (at_ + 1)).take (countsT.getD call.toNat 0)) r.1).bind fun x =>
        if found.length + 1 + x.2.length ≤ LIM then mainL f calls r.2 x.1 (found ++ ((x.2.length : Int) :: x.2)) else none else none
    else some found
def answers (calls : List Int) : Option (List Int) := mainL calls.length calls 0 none []
end GK
end
section
set_option Elab.async false
set_option linter.all false
set_option maxRecDepth 100000
set_option maxHeartbeats 4000000
namespace GK
open PySem PySem.Spec PyProof.Rows L2
theorem lim_eq : sizeLine = LIM := by decide +kernel
theorem mil {n : Nat} (h : n ≤ 1000000) : n ≤ LIM := Nat.le_trans h (by decide)
theorem lt_lim {n : Nat} (h : n < LIM) : n < sizeLine := by rw [lim_eq]; exact h
theorem le_lim {n : Nat} (h : n ≤ LIM) : n ≤ sizeLine := by rw [lim_eq]; exact h
/-! ### an if whose test is known -/
theorem iteY {b : Bool} {A B : Prop} (hb : b = true) (h : A) : if b = true then A else B := by
  rw [if_pos hb]
  exact h
theorem iteN {b : Bool} {A B : Prop} (hb : b = false) (h : B) : if b = true then A else B := by
  rw [hb, if_neg Bool.false_ne_true]
  exact h
theorem iteYd {c A B : Prop} [Decidable c] (hc : c) (h : A) : if decide c = true then A else B := iteY (decide_eq_true hc) h
theorem iteNd {c A B : Prop} [Decidable c] (hc : ¬ c) (h : B) : if decide c = true then A else B := iteN (decide_eq_false hc) h
/-! ### dicts with int keys -/
section
variable {β : Type} {g : Int → β → V} {l : List (Int × β)} {k : Int}
def dk (g : Int → β → V) (l : List (Int × β)) : List (Key × V) := l.map fun p => (Sum.inl p.1, g p.1 p.2)
theorem dk_length : (dk g l).length = l.length := List.length_map _
theorem key_inl (a b : Int) : decide ((Sum.inl a : Key) = Sum.inl b) = decide (a = b) := by
  by_cases e : a = b
  · rw [e, decide_eq_true rfl, decide_eq_true rfl]
  · rw [decide_eq_false e, decide_eq_false fun q => e (Sum.inl.inj q)]
theorem valV_dk : valV (dk g l) (Sum.inl k) = (look l k).map (g k) := by
  induction l with
  | nil => rfl
  | cons p l ih =>
    by_cases e : p.1 = k
    · rw [show dk g (p :: l) = (Sum.inl p.1, g p.1 p.2) :: dk g l from rfl, valV_pos (by rw [e]), e]
      unfold look
      rw [List.find?_cons, decide_eq_true e]
      rfl
    · rw [show dk g (p :: l) = (Sum.inl p.1, g p.1 p.2) :: dk g l from rfl, valV_neg (fun q => e (Sum.inl.inj q)), ih]
      unfold look
      rw [List.find?_cons, decide_eq_false e]
theorem dropK_dk : dropK (dk g l) (Sum.inl k) = dk g (del l k) := by
  unfold dropK dk del
  rw [List.filter_map]
  congr 1
  refine List.filter_congr fun p _ => ?_
  by_cases e : p.1 = k
  · simp [e]
  · simp [e, key_inl]
theorem putK_dk {v : β} : putK (dk g l) (Sum.inl k) (g k v) = dk g (put l k v) := by
  have ea : ((dk g l).any fun kv => decide (kv.1 = (Sum.inl k : Key))) = (l.any fun p => decide (p.1 = k)) := by
    unfold dk
    rw [List.any_map]
    congr 1
    funext p
    exact key_inl p.1 k
  unfold putK put
  rw [ea]
  by_cases e : (l.any fun p => decide (p.1 = k)) = true
  · rw [if_pos e, if_pos e]
    unfold dk
    rw [List.map_map, List.map_map]
    refine List.map_congr_left fun p _ => ?_
    show (if (Sum.inl p.1 : Key) = Sum.inl k then ((Sum.inl p.1 : Key), g k v) else (Sum.inl p.1, g p.1 p.2)) = _
    by_cases h : p.1 = k
    · rw [if_pos (by rw [h])]
      show _ = (Sum.inl (if p.1 = k then (p.1, v) else p).1, g (if p.1 = k then (p.1, v) else p).1 (if p.1 = k then (p.1, v) else p).2)
      rw [if_pos h, h]
    · rw [if_neg fun q => h (Sum.inl.inj q)]
      show _ = (Sum.inl (if p.1 = k then (p.1, v) else p).1, g (if p.1 = k then (p.1, v) else p).1 (if p.1 = k then (p.1, v) else p).2)
      rw [if_neg h]
  · rw [if_neg e, if_neg e]
    unfold dk
    rw [List.map_append]
    rfl
theorem keys_dk : (dk g l).map (·.1) = (l.map (·.1)).map Sum.inl := by
  unfold dk
  rw [List.map_map, List.map_map]
  rfl
theorem dk_congr {g' : Int → β → V} (h : ∀ p ∈ l, g p.1 p.2 = g' p.1 p.2) : dk g l = dk g' l := by
  unfold dk
  exact List.map_congr_left fun p hp => by rw [h p hp]
theorem look_mem {v : β} (h : look l k = some v) : (k, v) ∈ l := by
  unfold look at h
  obtain ⟨p, h1, h2⟩ := Option.map_eq_some_iff.mp h
  have e := List.find?_some h1
  have e2 : p.1 = k := of_decide_eq_true e
  have m := List.mem_of_find?_eq_some h1
  rw [← e2, ← h2]
  exact m
/-- a dict's item -/
theorem dget {H : Hp} {d : Addr} {v : β} (h : H d = some (.dK (dk g l))) (e : look l k = some v) : DGet H d (.int k) (some (g k v)) := by
  have q := DGet.k (k := Sum.inl k) h
  rw [valV_dk, e] at q
  exact q
theorem dgetF {H : Hp} {d : Addr} {v : β} {o : Obj} (h : H d = some (.frz o (.dK (dk g l)))) (e : look l k = some v) : DGet H d (.int k) (some (g k v)) := by
  refine .inl ⟨dk g l, Sum.inl k, .inr ⟨o, h⟩, rfl, ?_⟩
  rw [valV_dk, e]
  rfl
theorem dput {H : Hp} {d : Addr} {v : β} (h : H d = some (.dK (dk g l))) (hl : l.length < LIM) : DPut H d (.int k) (g k v) (upd H d (.dK (dk g (put l k v)))) := by
  have q := DPut.k (k := Sum.inl k) (v := g k v) h (lt_lim (by rw [dk_length]; exact hl))
  rw [putK_dk] at q
  exact q
end
/-! ### lists of ints -/
theorem isort_of {ys ks : List Int} (h : ys.Perm ks) (s : ys.Pairwise (· ≤ ·)) : ys = isort ks := by
  have p2 : (isort ks).Perm ks := List.mergeSort_perm _ _
  have s2 : (isort ks).Pairwise (· ≤ ·) := by
    have q := List.pairwise_mergeSort (le := fun a b : Int => decide (a ≤ b)) (fun a b c h1 h2 => by
      have h1 := of_decide_eq_true h1
      have h2 := of_decide_eq_true h2
      exact decide_eq_true (by omega)) (fun a b => by
      by_cases h : a ≤ b
      · rw [decide_eq_true h]; rfl
      · rw [decide_eq_true (show b ≤ a by omega), Bool.or_true]) ks
    exact q.imp fun h => of_decide_eq_true h
  exact (h.trans p2.symm).eq_of_pairwise (fun a b _ _ h1 h2 => by omega) s s2
/-! ### comprehensions whose parts change nothing -/
section
variable {J : It} {n : Nat} {G : Hp → Prop} {Y : Nat → Hp → V → Hp → Prop}
theorem filter_more {α : Type} (b : α → Bool) (l : List α) (i : Nat) {a : α} (h : l[i]? = some a) : (l.take (i + 1)).filter b = (l.take i).filter b ++ (if b a = true then [a] else []) := by
  rw [List.take_add_one, h, List.filter_append]
  congr 1
  show [a].filter b = _
  rw [List.filter_cons]
  rfl
theorem lcA {α : Type} (l : List α) (f : α → V) (w : Walk J n G Y) (hn : l.length = n) (hY : ∀ i H x H', i < n → Y i H x H' → H' = H ∧ ∃ a, l[i]? = some a ∧ x = f a) {C : Cells} {H1 : Hp} (hO : Owns H1 C) (hG : ∀ H, Owns H C → G H) (b : α → Bool) (y : α → V)
    {j : Nat} {tt : TT} {te : TE} {vs : List Nat} {σ : L2.St} {D : Addr} {Qd : Hp → Prop} (hD : H1 D = none) (hz : n ≤ LIM)
    (hw : ∀ x, wipe ((wipe σ vs).set j (some x)) vs = wipe σ vs)
    (ht : ∀ a ∈ l, ∀ H, Owns H C → ∀ Q : Bool → Hp → Prop, Q (b a) H → tt ((wipe σ vs).set j (some (f a))) H Q)
    (he : ∀ a ∈ l, b a = true → ∀ H, Owns H C → ∀ Q : VK, Q (y a) H → te ((wipe σ vs).set j (some (f a))) H Q)
    (hd : ∀ H, Owns H (cel D (.lst ((l.filter b).map y)) + C) → Qd H) :
    ∃ W : Nat → Nat → Hp → Prop, (∃ m, W 0 m (upd H1 D (.lst []))) ∧ ∀ i m H, W i m H →
      (J.stop i H ∧ Qd H) ∨ (J.go i H ∧ ∃ Nx : Hp → Prop, (∀ H', Nx H' → ∃ m', m' < m ∧ W (i + 1) m' H') ∧ ∀ x H', J.yld i H x H' → gName j x (wipe σ vs) H' fun σ2 H2 => wipe σ2 vs = wipe σ vs ∧ tt σ2 H2 fun b H3 =>
        if b = true then te σ2 H3 fun y H4 => ∃ acc, H4 D = some (.lst acc) ∧ acc.length < sizeLine ∧ Nx (upd H4 D (.lst (acc ++ [y]))) else Nx H3) := by
  refine lc_it w (fun i H => Owns H (cel D (.lst (((l.take i).filter b).map y)) + C)) (hO.new hD) (fun i H _ h => hG H h.r) ?_ ?_
  · intro i x H H' hi h yy
    obtain ⟨rfl, a, ha, rfl⟩ := hY i H x H' hi yy
    have hm := List.mem_of_getElem? ha
    refine ⟨hw _, ht a hm _ h.r _ ?_⟩
    have e := filter_more b l i ha
    by_cases hb : b a = true
    · rw [hb]
      refine iteT (he a hm hb _ h.r _ ?_)
      refine ⟨_, h.get, ?_, ?_⟩
      · rw [List.length_map]
        have h1 := List.length_filter_le b (l.take i)
        have h2 : (l.take i).length ≤ i := by rw [List.length_take]; omega
        exact lt_lim (by omega)
      · rw [e, if_pos hb, List.map_append]
        exact h.put
    · have hb : b a = false := by simpa using hb
      rw [hb]
      refine iteF ?_
      rw [e, hb, if_neg Bool.false_ne_true, List.append_nil]
      exact h
  · intro H h
    rw [← hn, List.take_length] at h
    exact hd H h
end
/-- ints of a list -/
theorem yAt_ints {ns : List Int} {n : Nat} : ∀ (i : Nat) (H : Hp) (x : V) (H' : Hp), i < n → YAt (ns.map V.int) i H x H' → H' = H ∧ ∃ a, ns[i]? = some a ∧ x = V.int a := fun i H x H' _ h => by
  refine ⟨h.1, ?_⟩
  have q := h.2
  rw [List.getElem?_map] at q
  obtain ⟨a, h1, h2⟩ := Option.map_eq_some_iff.mp q
  exact ⟨a, h1, h2.symm⟩
theorem yKeys {β : Type} {g : Int → β → V} {l : List (Int × β)} {i : Nat} {H : Hp} {x : V} {H' : Hp} (h : H' = H ∧ ∃ k v, (dk g l)[i]? = some (k, v) ∧ x = kV k) : H' = H ∧ ∃ a, l[i]? = some a ∧ x = V.int a.1 := by
  obtain ⟨h1, k, v, h2, h3⟩ := h
  refine ⟨h1, ?_⟩
  unfold dk at h2
  rw [List.getElem?_map] at h2
  obtain ⟨p, h4, h5⟩ := Option.map_eq_some_iff.mp h2
  refine ⟨p, h4, ?_⟩
  rw [h3, ← (Prod.mk.inj h5).1]
  rfl
theorem take_more {α : Type} {l : List α} {i : Nat} {x : α} (h : l[i]? = some x) : l.take (i + 1) = l.take i ++ [x] := by
  rw [List.take_add_one, h]
  rfl
theorem get_ints {ns : List Int} {i : Nat} {y : V} (h : (ns.map V.int)[i]? = some y) : ∃ z, ns[i]? = some z ∧ y = V.int z := by
  rw [List.getElem?_map] at h
  obtain ⟨z, h1, h2⟩ := Option.map_eq_some_iff.mp h
  exact ⟨z, h1, h2.symm⟩
theorem at_int {ns : List Int} {i : Int} {j : Nat} {z : Int} (e : i = (j : Int)) (h : ns[j]? = some z) : atI (ns.map V.int) i = some (.int z) := at_of e (by rw [List.getElem?_map, h]; rfl)
theorem ixN_nat {n j : Nat} {i : Int} (e : i = (j : Int)) (h : j < n) : ixN n i = some j := by
  unfold ixN
  rw [e, if_pos (by omega), if_pos (by omega)]
  rfl
end GK
end
section
set_option Elab.async false
set_option linter.all false
set_option maxRecDepth 100000
set_option maxHeartbeats 4000000
namespace GK
open PySem PySem.Spec PyProof.Rows L2
/-! ### Asks -/
noncomputable def rowsC : List Addr → List (List Int) → Cells
  | r :: rs, x :: xs => cel r (.lst (x.map V.int)) + rowsC rs xs
  | _, _ => nil
theorem rowsC_snoc (r : Addr) (x : List Int) : ∀ (rs : List Addr) (xs : List (List Int)), rs.length = xs.length → rowsC (rs ++ [r]) (xs ++ [x]) = rowsC rs xs + cel r (.lst (x.map V.int))
  | [], [], _ => by
    show cel r _ + nil = nil + cel r _
    rw [add_nil, nil_add]
  | a :: rs, y :: xs, h => by
    show cel a _ + rowsC (rs ++ [r]) (xs ++ [x]) = cel a _ + rowsC rs xs + cel r _
    rw [rowsC_snoc r x rs xs (by simpa using h), cells_assoc]
  | [], _ :: _, h => by simp at h
  | _ :: _, [], h => by simp at h
def AsksAt (K : PySem.W.Frag) (a : Addr) (m : MAsks) (c : Cells) : Prop := ∃ (dx al ql : Addr) (rs : List Addr), rs.length = m.rows.length ∧
  c = cel a (.ins (He.ga K "Asks") dx (k_Asks.zip [.ref al, .ref ql])) + (cel al (.lst (m.ans.map V.int)) + (cel ql (.lst (rs.map V.ref)) + rowsC rs m.rows))
/-- made: the answers' list is handed over -/
def sp_Asks_init (K : PySem.W.Frag) : Sp := fun vs H Q _ => ∃ (a dx al : Addr) (ns : List Int) (F : Cells), vs = [.ref a, .ref al] ∧ Owns H (cel a (.ins (He.ga K "Asks") dx []) + (cel al (.lst (ns.map V.int)) + F)) ∧
  ∀ (H' : Hp) (c : Cells), AsksAt K a ⟨ns, []⟩ c → (∃ ql, c = cel a (.ins (He.ga K "Asks") dx (k_Asks.zip [.ref al, .ref ql])) + (cel al (.lst (ns.map V.int)) + (cel ql (.lst []) + nil))) → Owns H' (c + F) → Q .non H'
def sp_Asks_answer (K : PySem.W.Frag) : Sp := fun vs H Q _ => ∃ (a r : Addr) (m m' : MAsks) (x : List Int) (z : Int) (c F : Cells), vs = [.ref a, .ref r] ∧ AsksAt K a m c ∧ Owns H (c + (cel r (.lst (x.map V.int)) + F)) ∧ m.push x = some (m', z) ∧
  ∀ (H' : Hp) (c' : Cells), AsksAt K a m' c' → Owns H' (c' + F) → Q (.int z) H'
def sp_Asks_more (K : PySem.W.Frag) : Sp := fun vs H Q _ => ∃ (a : Addr) (m m' : MAsks) (n z : Int) (c F : Cells), vs = [.ref a, .int n] ∧ AsksAt K a m c ∧ Owns H (c + F) ∧ m.more n = some (m', z) ∧
  ∀ (H' : Hp) (c' : Cells), AsksAt K a m' c' → Owns H' (c' + F) → Q (.int z) H'
def sp_Asks_less (K : PySem.W.Frag) : Sp := fun vs H Q _ => ∃ (a : Addr) (m m' : MAsks) (p n : Int) (c F : Cells), vs = [.ref a, .int p, .int n] ∧ AsksAt K a m c ∧ Owns H (c + F) ∧ m.less p n = some m' ∧
  ∀ (H' : Hp) (c' : Cells), AsksAt K a m' c' → Owns H' (c' + F) → Q .non H'
def sp_Asks_tell (K : PySem.W.Frag) : Sp := fun vs H Q _ => ∃ (a : Addr) (m m' : MAsks) (k p x y u : Int) (c F : Cells), vs = [.ref a, .int k, .int p, .int x, .int y, .int u] ∧ AsksAt K a m c ∧ Owns H (c + F) ∧ m.tell k p x y u = some m' ∧
  ∀ (H' : Hp) (c' : Cells), AsksAt K a m' c' → Owns H' (c' + F) → Q .non H'
def sp_Asks_row (K : PySem.W.Frag) : Sp := fun vs H Q _ => ∃ (a : Addr) (m : MAsks) (c F : Cells), vs = [.ref a] ∧ AsksAt K a m c ∧ Owns H (c + F) ∧ (rowOf m.rows).length ≤ LIM ∧
  ∀ (H' : Hp) (p : Addr), Owns H' (cel p (.lst ((rowOf m.rows).map V.int)) + (c + F)) → Q (.ref p) H'
section
variable {P : Program} {w : World} {K : PySem.W.Frag} {mg : Str → Option Value} {base : Heap}
theorem sc_Asks_init : FnScope ["self", "answers"] ["self", "answers"] (defScope s_Asks_init) := ⟨rfl, rfl, rfl, by decide +kernel, rfl, by decide +kernel, by decide +kernel⟩
theorem ok_Asks_init (T : Env K mg) : DOk P w K mg base 1 ("Asks", some "__init__") ["self", "answers"] (sp_Asks_init K) := by
  obtain ⟨fd, F⟩ := T.d_Asks_init
  refine ⟨fd, F.ok sc_Asks_init (fun vs H Q E h => ?_) (fun cdv A outer s H vs Q E hr h => ?_), F.bindsN fun _ _ _ _ _ _ us hl => match us, hl with | [_, _], _ => rfl, F.kp⟩
  · obtain ⟨a, dx, al, ns, F, rfl, hO, k⟩ := h
    rfl
  · obtain ⟨a, dx, al, ns, F, rfl, hO, k⟩ := h
    refine ⟨_, PSs.nox (pss_cons (ksfld (K := K) rfl (pv 0) (pv 1) rfl)
      (pss_one (ksfld (K := K) rfl (pv 0) (pe_lst pa_nil) rfl))), ?_⟩
    -- self.answers = answers; self.asked = []
    refine ⟨_, rfl, _, rfl, _, _, _, _, rfl, hO.get, T.c_Asks, T.n_Asks_answers, (by show 0 < 1000; decide), ?_⟩
    refine ⟨Nat.zero_le _, fun l hl => ?_⟩
    have hO2 := (hO.up a (.ins (He.ga K "Asks") dx (k_Asks.zip [.ref al]))).new hl (o := .lst [])
    refine ⟨_, rfl, _, _, _, _, rfl, hO2.rd a, T.c_Asks, T.n_Asks_asked, lnz (ks := k_Asks) (by decide) [.ref al], ?_⟩
    refine k _ _ ⟨dx, al, l, [], rfl, rfl⟩ ⟨l, rfl⟩ ((hO2.up a (.ins (He.ga K "Asks") dx (k_Asks.zip [.ref al, .ref l]))).to ?_)
    show cel a _ + (cel l (.lst []) + (cel al _ + F)) = cel a _ + (cel al _ + (cel l (.lst []) + nil)) + F
    rw [add_nil]
    ac_rfl
theorem sc_Asks_answer : FnScope ["self", "row", "at"] ["self", "row"] (defScope s_Asks_answer) := ⟨rfl, rfl, rfl, by decide +kernel, rfl, by decide +kernel, by decide +kernel⟩
theorem ok_Asks_answer (T : Env K mg) : DOk P w K mg base 1 ("Asks", some "answer") ["self", "row"] (sp_Asks_answer K) := by
  obtain ⟨fd, F⟩ := T.d_Asks_answer
  refine ⟨fd, F.ok sc_Asks_answer (fun vs H Q E h => ?_) (fun cdv A outer s H vs Q E hr h => ?_), F.bindsN fun _ _ _ _ _ _ us hl => match us, hl with | [_, _], _ => rfl, F.kp⟩
  · obtain ⟨a, r, m, m', x, z, c, F, rfl, ⟨dx, al, ql, rs, hrs, rfl⟩, hO, hp, k⟩ := h
    rfl
  · obtain ⟨a, r, m, m', x, z, c, F, rfl, ⟨dx, al, ql, rs, hrs, rfl⟩, hO, hp, k⟩ := h
    refine ⟨_, PSs.nox (pss_cons (ps_set (i := 2) sc_Asks_answer.nd rfl (Or.inl rfl) (pe_callB call_len_seq (by rfl) T.f_len PySem.boot_len (pa_cons (kfld (K := K) rfl (pv 0) rfl) pa_nil)))
      (pss_cons (ps_expr (pe_bm PySem.F.plainAttrs_list PySem.F.slot_list_append PySem.F.type_list_append mt_append (kfld (K := K) rfl (pv 0) rfl) (pa_cons (pv 1) pa_nil)))
      (pss_cons (ps_if (pt_cmpR op_lt (pv 2) (pe_callB call_len_seq (by rfl) T.f_len PySem.boot_len (pa_cons (kfld (K := K) rfl (pv 0) rfl) pa_nil)) (nomark _))
        (pss_one (ps_ret (pe_ix (kix (K := K) rfl) (kfld (K := K) rfl (pv 0) rfl) (pv 2) (fun _ _ => rfl))))
        pss_nil)
      (pss_one (ps_ret pe_int))))), ?_⟩
    unfold MAsks.push at hp
    split at hp
    case isFalse => cases hp
    rename_i hlt
    obtain ⟨rfl, rfl⟩ := Prod.mk.inj (Option.some.inj hp)
    have h1 := hO.rd a
    have h2 := hO.rd al
    have h3 := hO.rd ql
    refine ⟨_, rfl, _, _, _, _, _, rfl, h1, T.c_Asks, T.n_Asks_asked, lkz ix_Asks_asked _, _, _, rfl, .inl (SqL.of h3), ?_⟩
    refine ⟨_, rfl, _, _, _, _, _, rfl, h1, T.c_Asks, T.n_Asks_asked, lkz ix_Asks_asked _, .inl ⟨rfl, _, SqL.of h3⟩, _, rfl, _, _, _, rfl, rfl, h3, (by rw [List.length_map, hrs]; exact lt_lim hlt), ?_⟩
    have hO2 := hO.up ql (.lst (rs.map V.ref ++ [.ref r]))
    have g1 := hO2.rd a
    have g2 := hO2.rd al
    have fin : ∀ z, z = (m.ans[m.rows.length]?).getD 0 → Q (.int z) (upd H ql (.lst (rs.map V.ref ++ [.ref r]))) := fun z ez => by
      rw [ez]
      refine k _ _ ⟨dx, al, ql, rs ++ [r], by simp [hrs], rfl⟩ ?_
      rw [rowsC_snoc r x rs m.rows hrs, List.map_append]
      exact hO2.to (by show _ = cel a _ + (cel al _ + (cel ql (.lst (rs.map V.ref ++ [.ref r])) + _)) + F; ac_rfl)
    refine ⟨_, rfl, _, rfl, _, _, _, _, _, rfl, g1, T.c_Asks, T.n_Asks_answers, lkz ix_Asks_answers _, _, _, rfl, .inl (SqL.of g2), _, _, rfl, rfl, _, rfl, ?_⟩
    rw [List.length_map, List.length_map, hrs]
    refine ite2 (fun hc => ?_) (fun hc => ?_)
    · have hc : m.rows.length < m.ans.length := by have := of_decide_eq_true hc; omega
      refine ⟨_, rfl, _, _, _, _, _, rfl, g1, T.c_Asks, T.n_Asks_answers, lkz ix_Asks_answers _, _, rfl, _, _, _, .int (m.ans[m.rows.length]'hc), rfl, rfl, SqL.of g2, at_of rfl (by rw [List.getElem?_map, List.getElem?_eq_getElem hc]; rfl), ?_⟩
      exact fin _ (by rw [List.getElem?_eq_getElem hc]; rfl)
    · have hc : ¬ m.rows.length < m.ans.length := fun q => hc (decide_eq_true (by omega))
      exact fin _ (by rw [List.getElem?_eq_none (by omega)]; rfl)
theorem sc_Asks_more : FnScope ["self", "many"] ["self", "many"] (defScope s_Asks_more) := ⟨rfl, rfl, rfl, by decide +kernel, rfl, by decide +kernel, by decide +kernel⟩
theorem ok_Asks_more (T : Env K mg) : DOk P w K mg base 2 ("Asks", some "more") ["self", "many"] (sp_Asks_more K) := by
  obtain ⟨fd, F⟩ := T.d_Asks_more
  refine ⟨fd, F.ok sc_Asks_more (fun vs H Q E h => ?_) (fun cdv A outer s H vs Q E hr h => ?_), F.bindsN fun _ _ _ _ _ _ us hl => match us, hl with | [_, _], _ => rfl, F.kp⟩
  · obtain ⟨a, m, m', n, z, c, F, rfl, hA, hO, hp, k⟩ := h
    rfl
  · obtain ⟨a, m, m', n, z, c, F, rfl, hA, hO, hp, k⟩ := h
    refine ⟨_, PSs.nox (pss_one (ps_ret (pmt (K := K) rfl (pv 0) T.c_Asks T.m_Asks_answer (ok_Asks_answer T) (hr.mono (by decide)) (pa_cons (pe_lst (pa_cons (pe_gi T.i_MORE) (pa_cons (pv 1) pa_nil))) pa_nil)))), ?_⟩
    obtain ⟨dx, al, ql, rs, hrs, rfl⟩ := id hA
    refine ⟨_, rfl, _, _, _, rfl, hO.rd a, lkn nx_Asks_answer _, _, rfl, (by show 2 ≤ sizeLine; decide), fun l hl => ?_⟩
    refine ⟨a, l, m, m', [1, n], z, _, F, rfl, hA, (hO.new hl (o := .lst [.int 1, .int n])).to ?_, hp, k⟩
    show _ = _ + (cel l (.lst [.int 1, .int n]) + F)
    ac_rfl
theorem sc_Asks_less : FnScope ["self", "first", "many"] ["self", "first", "many"] (defScope s_Asks_less) := ⟨rfl, rfl, rfl, by decide +kernel, rfl, by decide +kernel, by decide +kernel⟩
theorem ok_Asks_less (T : Env K mg) : DOk P w K mg base 2 ("Asks", some "less") ["self", "first", "many"] (sp_Asks_less K) := by
  obtain ⟨fd, F⟩ := T.d_Asks_less
  refine ⟨fd, F.ok sc_Asks_less (fun vs H Q E h => ?_) (fun cdv A outer s H vs Q E hr h => ?_), F.bindsN fun _ _ _ _ _ _ us hl => match us, hl with | [_, _, _], _ => rfl, F.kp⟩
  · obtain ⟨a, m, m', p, n, c, F, rfl, hA, hO, hp, k⟩ := h
    rfl
  · obtain ⟨a, m, m', p, n, c, F, rfl, hA, hO, hp, k⟩ := h
    refine ⟨_, PSs.nox (pss_one (ps_expr (pmt (K := K) rfl (pv 0) T.c_Asks T.m_Asks_answer (ok_Asks_answer T) (hr.mono (by decide)) (pa_cons (pe_lst (pa_cons (pe_gi T.i_LESS) (pa_cons (pv 1) (pa_cons (pv 2) pa_nil)))) pa_nil)))), ?_⟩
    obtain ⟨dx, al, ql, rs, hrs, rfl⟩ := id hA
    obtain ⟨⟨m2, z⟩, hp2, rfl⟩ := Option.map_eq_some_iff.mp hp
    refine ⟨_, rfl, _, _, _, rfl, hO.rd a, lkn nx_Asks_answer _, _, rfl, _, rfl, (by show 3 ≤ sizeLine; decide), fun l hl => ?_⟩
    refine ⟨a, l, m, m2, [2, p, n], z, _, F, rfl, hA, (hO.new hl (o := .lst [.int 2, .int p, .int n])).to ?_, hp2, k⟩
    show _ = _ + (cel l (.lst [.int 2, .int p, .int n]) + F)
    ac_rfl
theorem sc_Asks_tell : FnScope ["self", "kind", "place", "a", "b", "who"] ["self", "kind", "place", "a", "b", "who"] (defScope s_Asks_tell) := ⟨rfl, rfl, rfl, by decide +kernel, rfl, by decide +kernel, by decide +kernel⟩
theorem ok_Asks_tell (T : Env K mg) : DOk P w K mg base 2 ("Asks", some "tell") ["self", "kind", "place", "a", "b", "who"] (sp_Asks_tell K) := by
  obtain ⟨fd, F⟩ := T.d_Asks_tell
  refine ⟨fd, F.ok sc_Asks_tell (fun vs H Q E h => ?_) (fun cdv A outer s H vs Q E hr h => ?_), F.bindsN fun _ _ _ _ _ _ us hl => match us, hl with | [_, _, _, _, _, _], _ => rfl, F.kp⟩
  · obtain ⟨a, m, m', kd, p, x, y, u, c, F, rfl, hA, hO, hp, k⟩ := h
    rfl
  · obtain ⟨a, m, m', kd, p, x, y, u, c, F, rfl, hA, hO, hp, k⟩ := h
    refine ⟨_, PSs.nox (pss_one (ps_expr (pmt (K := K) rfl (pv 0) T.c_Asks T.m_Asks_answer (ok_Asks_answer T) (hr.mono (by decide)) (pa_cons (pe_lst (pa_cons (pe_gi T.i_TELL) (pa_cons (pv 1) (pa_cons (pv 2) (pa_cons (pv 3) (pa_cons (pv 4) (pa_cons (pv 5) pa_nil))))))) pa_nil)))), ?_⟩
    obtain ⟨dx, al, ql, rs, hrs, rfl⟩ := id hA
    obtain ⟨⟨m2, z⟩, hp2, rfl⟩ := Option.map_eq_some_iff.mp hp
    refine ⟨_, rfl, _, _, _, rfl, hO.rd a, lkn nx_Asks_answer _, _, rfl, _, rfl, _, rfl, _, rfl, _, rfl, (by show 6 ≤ sizeLine; decide), fun l hl => ?_⟩
    refine ⟨a, l, m, m2, [3, kd, p, x, y, u], z, _, F, rfl, hA, (hO.new hl (o := .lst [.int 3, .int kd, .int p, .int x, .int y, .int u])).to ?_, hp2, k⟩
    show _ = _ + (cel l (.lst [.int 3, .int kd, .int p, .int x, .int y, .int u]) + F)
    ac_rfl
theorem rowsC_mid : ∀ (rs : List Addr) (xs : List (List Int)) (i : Nat), rs.length = xs.length → (h : i < rs.length) → ∃ x, xs[i]? = some x ∧ ∃ e, rowsC rs xs = cel (rs[i]'h) (.lst (x.map V.int)) + e
  | r :: rs, x :: xs, 0, _, _ => ⟨x, rfl, _, rfl⟩
  | r :: rs, x :: xs, i + 1, hl, h => by
    obtain ⟨y, h1, e, h2⟩ := rowsC_mid rs xs i (by simpa using hl) (by simpa using h)
    refine ⟨y, h1, cel r (.lst (x.map V.int)) + e, ?_⟩
    show cel r (.lst (x.map V.int)) + rowsC rs xs = cel (rs[i]'(by simpa using h)) _ + _
    rw [h2]
    ac_rfl
  | _ :: _, [], _, hl, _ => by simp at hl
  | [], _, _, _, h => absurd h (by simp)
theorem sc_Asks_row : FnScope ["self", "found", "one"] ["self"] (defScope s_Asks_row) := ⟨rfl, rfl, rfl, by decide +kernel, rfl, by decide +kernel, by decide +kernel⟩
theorem ok_Asks_row (T : Env K mg) : DOk P w K mg base 1 ("Asks", some "row") ["self"] (sp_Asks_row K) := by
  obtain ⟨fd, F⟩ := T.d_Asks_row
  refine ⟨fd, F.ok sc_Asks_row (fun vs H Q E h => ?_) (fun cdv A outer s H vs Q E hr h => ?_), F.bindsN fun _ _ _ _ _ _ us hl => match us, hl with | [_], _ => rfl, F.kp⟩
  · obtain ⟨a, m, c, F, rfl, ⟨dx, al, ql, rs, hrs, rfl⟩, hO, hz, k⟩ := h
    rfl
  · obtain ⟨a, m, c, F, rfl, ⟨dx, al, ql, rs, hrs, rfl⟩, hO, hz, k⟩ := h
    refine ⟨_, PSs.nox (pss_cons (ps_set (i := 1) sc_Asks_row.nd rfl (Or.inl rfl) (pe_lst (pa_cons (pe_callB call_len_seq (by rfl) T.f_len PySem.boot_len (pa_cons (kfld (K := K) rfl (pv 0) rfl) pa_nil)) pa_nil)))
      (pss_cons (ps_for PassesOwn.never rfl (kpi (K := K) rfl (kfld (K := K) rfl (pv 0) rfl)) (pg_name (i := 2) sc_Asks_row.nd rfl (Or.inl rfl))
        (pss_one (ps_expr (pe_bm PySem.F.plainAttrs_list PySem.F.slot_list_extend PySem.F.type_list_extend mt_extend (pv 1) (pa_cons (pv 2) pa_nil)))))
      (pss_one (ps_ret (pv 1))))), ?_⟩
    refine ⟨_, rfl, _, _, _, _, _, rfl, hO.rd a, T.c_Asks, T.n_Asks_asked, lkz ix_Asks_asked _, _, _, rfl, .inl (SqL.of (hO.rd ql)), (by show 1 ≤ sizeLine; decide), fun p hp => ?_⟩
    rw [List.length_map, hrs]
    have hO1 := hO.new hp (o := .lst [.int (m.rows.length : Int)])
    refine ⟨_, rfl, _, _, _, _, _, rfl, hO1.rd a, T.c_Asks, T.n_Asks_asked, lkz ix_Asks_asked _, _, rfl, ⟨_, SqL.of (hO1.rd ql)⟩, for_list (K := K) (a := ql) (xs := rs.map V.ref) (fun i σ H' => ∃ v : Option V, σ = [some (.ref a), some (.ref p), v] ∧
      Owns H' (cel p (.lst ((rowOf m.rows |>.take 1).map V.int ++ ((m.rows.take i).flatten.map V.int))) + (cel a (.ins (He.ga K "Asks") dx (k_Asks.zip [.ref al, .ref ql])) + (cel al (.lst (m.ans.map V.int)) + (cel ql (.lst (rs.map V.ref)) + rowsC rs m.rows)) + F)))
      ⟨none, rfl, hO1⟩ (fun i σ H' _ ⟨_, _, h⟩ => SqL.of (h.rd ql)) ?_ ?_⟩
    · rintro i y σ H' hi ⟨v, rfl, hO2⟩
      obtain ⟨hir, rfl⟩ : ∃ h : i < rs.length, y = V.ref rs[i] := by
        rw [List.getElem?_map] at hi
        obtain ⟨r, h1, h2⟩ := Option.map_eq_some_iff.mp hi
        obtain ⟨h3, h4⟩ := List.getElem?_eq_some_iff.mp h1
        exact ⟨h3, by rw [h4]; exact h2.symm⟩
      obtain ⟨x, hx, e, he⟩ := rowsC_mid rs m.rows i hrs hir
      have hO3 := hO2
      rw [he] at hO3
      have g1 := hO3.rd p
      have g2 := hO3.rd rs[i]
      have step : (rowOf m.rows |>.take 1).map V.int ++ ((m.rows.take i).flatten.map V.int) ++ x.map V.int = (rowOf m.rows |>.take 1).map V.int ++ ((m.rows.take (i + 1)).flatten.map V.int) := by
        rw [take_more hx, List.flatten_append, List.map_append, List.append_assoc]
        simp
      have len : ((rowOf m.rows |>.take 1).map V.int ++ ((m.rows.take (i + 1)).flatten.map V.int)).length ≤ sizeLine := by
        refine Nat.le_trans ?_ (le_lim hz)
        have e1 : m.rows.flatten = (m.rows.take (i + 1)).flatten ++ (m.rows.drop (i + 1)).flatten := by
          rw [← List.flatten_append, List.take_append_drop]
        unfold rowOf
        rw [List.length_append, List.length_map, List.length_map, List.length_cons, e1, List.length_append]
        show 1 + _ ≤ _
        omega
      refine ⟨_, rfl, .inl ⟨rfl, _, SqL.of g1⟩, _, rfl, _, _, _, _, rfl, rfl, g1, g2, by rw [← List.length_append, step]; exact len, ?_⟩
      exact ⟨_, rfl, by rw [← step]; exact hO2.put⟩
    · rintro σ H' ⟨v, rfl, hO2⟩
      rw [List.length_map, hrs, List.take_length] at hO2
      refine ⟨_, rfl, k _ _ ?_⟩
      rw [← List.map_append] at hO2
      exact hO2
end
end GK
end
section
set_option Elab.async false
set_option linter.all false
set_option maxRecDepth 100000
set_option maxHeartbeats 4000000
namespace GK
open PySem PySem.Spec PyProof.Rows L2
/-! ### Pages -/
theorem dec_int (x y : Int) : decide (V.int x = V.int y) = decide (x = y) := by
  by_cases e : x = y
  · rw [e, decide_eq_true rfl, decide_eq_true rfl]
  · rw [decide_eq_false e, decide_eq_false fun q => e (V.int.inj q)]
theorem Owns.upA {H : Hp} {c e : Cells} {C dx : Addr} {ks : List Str} {vs : List V} {f : Str} (h : Owns H c) (a : Addr) [y : Ex c a (.ins C dx (ks.zip vs)) e] (hi : ks.findIdx? (· == f) = none) (x : V) (hl : vs.length = ks.length := by rfl) :
    Owns (upd H a (.ins C dx (putF f x (ks.zip vs)))) (cel a (.ins C dx ((ks ++ [f]).zip (vs ++ [x]))) + e) := by
  rw [pta hi x vs hl]
  exact h.up a _
abbrev vPages (m : MPages) (mk rn : Addr) : List V := [.int m.chunk, .int m.spare, .ref mk, .ref rn, .int m.asked, .int m.refused, .int m.came, .int m.went, .int m.most]
abbrev oPages (K : PySem.W.Frag) (dx : Addr) (m : MPages) (mk rn : Addr) : HO := .ins (He.ga K "Pages") dx (k_Pages.zip (vPages m mk rn))
abbrev gI : Int → Int → V := fun _ v => V.int v
def PagesAt (K : PySem.W.Frag) (a : Addr) (m : MPages) (c : Cells) : Prop := m.marks.length ≤ 1000000 ∧ ∃ (dx mk rn : Addr), c = cel a (oPages K dx m mk rn) + (cel mk (.lst (m.marks.map V.int)) + cel rn (.dK (dk gI m.runs)))
theorem setM_length (l : List Int) (f n : Nat) (k : Int) : (setM l f n k).length = l.length := List.length_mapIdx
section
variable {P : Program} {w : World} {K : PySem.W.Frag} {mg : Str → Option Value} {base : Heap}
def sp_Pages_init (K : PySem.W.Frag) : Sp := fun vs H Q _ => ∃ (a dx : Addr) (size chunk spare : Int) (F : Cells), vs = [.ref a, .int size, .int chunk, .int spare] ∧ 0 ≤ size ∧ size ≤ 1000000 ∧ Owns H (cel a (.ins (He.ga K "Pages") dx []) + F) ∧
  ∀ (H' : Hp) (c : Cells), PagesAt K a (MPages.new size chunk spare) c → Owns H' (c + F) → Q .non H'
theorem sc_Pages_init : FnScope ["self", "size", "chunk", "spare", "k"] ["self", "size", "chunk", "spare"] (defScope s_Pages_init) := ⟨rfl, rfl, rfl, by decide +kernel, rfl, by decide +kernel, by decide +kernel⟩
theorem ok_Pages_init (T : Env K mg) : DOk P w K mg base 1 ("Pages", some "__init__") ["self", "size", "chunk", "spare"] (sp_Pages_init K) := by
  obtain ⟨fd, F⟩ := T.d_Pages_init
  refine ⟨fd, F.ok sc_Pages_init (fun vs H Q E h => ?_) (fun cdv A outer s H vs Q E hr h => ?_), F.bindsN fun _ _ _ _ _ _ us hl => match us, hl with | [_, _, _, _], _ => rfl, F.kp⟩
  · obtain ⟨a, dx, size, chunk, spare, F, rfl, hs0, hs1, hO, k⟩ := h
    rfl
  · obtain ⟨a, dx, size, chunk, spare, F, rfl, hs0, hs1, hO, k⟩ := h
    refine ⟨_, PSs.nox (pss_cons (ksfld (K := K) rfl (pv 0) (pv 2) rfl)
      (pss_cons (ksfld (K := K) rfl (pv 0) (pv 3) rfl)
      (pss_cons (ksfld (K := K) rfl (pv 0) (pe_lc (own := [("k", 4)]) (g := gName 4) rfl sc_Pages_init.nd (pi_range1 (by rfl) T.f_range (pa_cons (pv 1) pa_nil)) (blkOk_by (own := [("k", 4)]) (N := ["self", "size", "chunk", "spare", "k"]) (sc := defScope s_Pages_init) (by decide +kernel)) (fun _ _ _ _ _ => pg_name (i := 4) sc_Pages_init.nd rfl (Or.inl rfl)) (fun _ _ _ _ _ => pts_nil) (fun _ _ _ _ _ => (pe_gi T.i_OUTSIDE))) rfl)
      (pss_cons (ksfld (K := K) rfl (pv 0) pe_dnewK rfl)
      (pss_cons (ksfld (K := K) rfl (pv 0) pe_int rfl)
      (pss_cons (ksfld (K := K) rfl (pv 0) pe_int rfl)
      (pss_cons (ksfld (K := K) rfl (pv 0) pe_int rfl)
      (pss_cons (ksfld (K := K) rfl (pv 0) pe_int rfl)
      (pss_one (ksfld (K := K) rfl (pv 0) pe_int rfl)))))))))), ?_⟩
    refine ⟨_, rfl, _, rfl, _, _, _, _, rfl, hO.rd a, T.c_Pages, T.n_Pages_chunk, (by show 0 < 1000; decide), ?_⟩
    have h1 := hO.up a (.ins (He.ga K "Pages") dx ((["chunk"] : List Str).zip [.int chunk]))
    refine ⟨_, rfl, _, rfl, _, _, _, _, rfl, h1.rd a, T.c_Pages, T.n_Pages_spare, lnz (by decide) _, ?_⟩
    have h2 := h1.upA a nz_Pages_spare (.int spare)
    refine ⟨_, rfl, _, rfl, by omega, by omega, fun mk hmk => lcA (List.range size.toNat) (fun i => .int (0 + (i : Int))) walk_range (List.length_range) (fun i H x H' hi y => ⟨y.1, i, List.getElem?_range hi, y.2⟩) h2 (fun _ _ => trivial) (fun _ => true) (fun _ => V.int 0) hmk (mil (by omega)) (fun _ => rfl) (fun _ _ _ _ Q q => q) (fun _ _ _ _ _ Q q => q) (fun H h3 => ?_)⟩
    refine ⟨_, rfl, _, _, _, _, rfl, h3.rd a, T.c_Pages, T.n_Pages_marks, lnz (by decide) _, ?_⟩
    have h4 := h3.upA a nz_Pages_marks (.ref mk)
    intro rn hrn
    have h5 := h4.new hrn (o := .dK [])
    refine ⟨_, rfl, _, _, _, _, rfl, h5.rd a, T.c_Pages, T.n_Pages_runs, lnz (by decide) _, ?_⟩
    have h6 := h5.upA a nz_Pages_runs (.ref rn)
    refine ⟨_, rfl, _, _, _, _, rfl, h6.rd a, T.c_Pages, T.n_Pages_asked, lnz (by decide) _, ?_⟩
    have h7 := h6.upA a nz_Pages_asked (.int 0)
    refine ⟨_, rfl, _, _, _, _, rfl, h7.rd a, T.c_Pages, T.n_Pages_refused, lnz (by decide) _, ?_⟩
    have h8 := h7.upA a nz_Pages_refused (.int 0)
    refine ⟨_, rfl, _, _, _, _, rfl, h8.rd a, T.c_Pages, T.n_Pages_came, lnz (by decide) _, ?_⟩
    have h9 := h8.upA a nz_Pages_came (.int 0)
    refine ⟨_, rfl, _, _, _, _, rfl, h9.rd a, T.c_Pages, T.n_Pages_went, lnz (by decide) _, ?_⟩
    have h10 := h9.upA a nz_Pages_went (.int 0)
    refine ⟨_, rfl, _, _, _, _, rfl, h10.rd a, T.c_Pages, T.n_Pages_most, lnz (by decide) _, ?_⟩
    have h11 := h10.upA a nz_Pages_most (.int 0)
    refine k _ _ ⟨by show (List.replicate size.toNat (0 : Int)).length ≤ _; rw [List.length_replicate]; omega, dx, mk, rn, rfl⟩ (h11.to ?_)
    have e1 : (List.map (fun _ => V.int 0) (List.filter (fun _ => true) (List.range size.toNat))) = (List.replicate size.toNat (0 : Int)).map V.int := by
      rw [List.filter_eq_self.mpr (fun _ _ => rfl), List.map_const', List.length_range, List.map_replicate]
    rw [e1]
    show cel a (oPages K dx (MPages.new size chunk spare) mk rn) + _ = cel a (oPages K dx (MPages.new size chunk spare) mk rn) + (cel mk (.lst ((List.replicate size.toNat (0 : Int)).map V.int)) + cel rn (.dK [])) + F
    ac_rfl
def sp_Pages_count_of (K : PySem.W.Frag) : Sp := fun vs H Q _ => ∃ (a : Addr) (m : MPages) (mark : Int) (c F : Cells), vs = [.ref a, .int mark] ∧ PagesAt K a m c ∧ Owns H (c + F) ∧ ∀ H', Owns H' (c + F) → Q (.int (countM m.marks mark)) H'
theorem sc_Pages_count_of : FnScope ["self", "mark", "one"] ["self", "mark"] (defScope s_Pages_count_of) := ⟨rfl, rfl, rfl, by decide +kernel, rfl, by decide +kernel, by decide +kernel⟩
theorem ok_Pages_count_of (T : Env K mg) : DOk P w K mg base 1 ("Pages", some "count_of") ["self", "mark"] (sp_Pages_count_of K) := by
  obtain ⟨fd, F⟩ := T.d_Pages_count_of
  refine ⟨fd, F.ok sc_Pages_count_of (fun vs H Q E h => ?_) (fun cdv A outer s H vs Q E hr h => ?_), F.bindsN fun _ _ _ _ _ _ us hl => match us, hl with | [_, _], _ => rfl, F.kp⟩
  · obtain ⟨a, m, mark, c, F, rfl, ⟨hz, dx, mk, rn, rfl⟩, hO, k⟩ := h
    rfl
  · obtain ⟨a, m, mark, c, F, rfl, ⟨hz, dx, mk, rn, rfl⟩, hO, k⟩ := h
    refine ⟨_, PSs.nox (pss_one (ps_ret (pe_callB call_len_seq (by rfl) T.f_len PySem.boot_len (pa_cons (pe_lc (own := [("one", 2)]) (g := gName 2) rfl sc_Pages_count_of.nd (kpi (K := K) rfl (kfld (K := K) rfl (pv 0) rfl)) (blkOk_by (own := [("one", 2)]) (N := ["self", "mark", "one"]) (sc := defScope s_Pages_count_of) (by decide +kernel)) (fun _ _ _ _ _ => pg_name (i := 2) sc_Pages_count_of.nd rfl (Or.inl rfl)) (fun _ _ _ _ _ => pts_one (pt_cmpR op_eq (pv 2) (pv 1) (nomark _))) (fun _ _ _ _ _ => (pv 2))) pa_nil)))), ?_⟩
    refine ⟨_, rfl, _, _, _, _, _, rfl, hO.rd a, T.c_Pages, T.n_Pages_marks, lkz ix_Pages_marks _, _, rfl, ⟨_, SqL.of (hO.rd mk)⟩, fun D hD => lcA m.marks V.int walk_list (List.length_map _).symm yAt_ints hO (fun H h => SqL.of (h.rd mk)) (fun x => decide (x = mark)) V.int hD (mil (by rw [List.length_map]; omega)) (fun _ => rfl) (fun x _ H _ Q q => ?_) (fun x _ _ H _ Q q => ?_) (fun H h => ?_)⟩
    · exact ⟨_, rfl, _, rfl, rfl, _, rfl, by rw [dec_int]; exact q⟩
    · exact ⟨_, rfl, q⟩
    · refine ⟨_, _, rfl, .inl (SqL.of (h.rd D)), ?_⟩
      have e : ((List.map V.int (m.marks.filter fun x => decide (x = mark))).length : Int) = countM m.marks mark := by
        unfold countM
        rw [List.length_map]
      show Q (V.int _) _
      rw [e]
      exact k _ h.r
def sp_Pages_owned (K : PySem.W.Frag) : Sp := fun vs H Q _ => ∃ (a : Addr) (m : MPages) (c F : Cells), vs = [.ref a] ∧ PagesAt K a m c ∧ Owns H (c + F) ∧ ∀ H', Owns H' (c + F) → Q (.int (ownedM m.marks)) H'
theorem sc_Pages_owned : FnScope ["self"] ["self"] (defScope s_Pages_owned) := ⟨rfl, rfl, rfl, by decide +kernel, rfl, by decide +kernel, by decide +kernel⟩
theorem ok_Pages_owned (T : Env K mg) : DOk P w K mg base 2 ("Pages", some "owned") ["self"] (sp_Pages_owned K) := by
  obtain ⟨fd, F⟩ := T.d_Pages_owned
  refine ⟨fd, F.ok sc_Pages_owned (fun vs H Q E h => ?_) (fun cdv A outer s H vs Q E hr h => ?_), F.bindsN fun _ _ _ _ _ _ us hl => match us, hl with | [_], _ => rfl, F.kp⟩
  · obtain ⟨a, m, c, F, rfl, hA, hO, k⟩ := h
    rfl
  · obtain ⟨a, m, c, F, rfl, hA, hO, k⟩ := h
    refine ⟨_, PSs.nox (pss_one (ps_ret (pe_op op_sub (pe_callB call_len_seq (by rfl) T.f_len PySem.boot_len (pa_cons (kfld (K := K) rfl (pv 0) rfl) pa_nil)) (pmt (K := K) rfl (pv 0) T.c_Pages T.m_Pages_count_of (ok_Pages_count_of T) (hr.mono (by decide)) (pa_cons (pe_gi T.i_OUTSIDE) pa_nil))))), ?_⟩
    obtain ⟨hz, dx, mk, rn, rfl⟩ := id hA
    refine ⟨_, rfl, _, _, _, _, _, rfl, hO.rd a, T.c_Pages, T.n_Pages_marks, lkz ix_Pages_marks _, _, _, rfl, .inl (SqL.of (hO.rd mk)), ?_⟩
    refine ⟨_, rfl, _, _, _, rfl, hO.rd a, lkn nx_Pages_count_of _, a, m, 0, _, F, rfl, hA, hO, fun H' h => ⟨_, _, rfl, rfl, ?_⟩⟩
    rw [List.length_map]
    exact k _ h
theorem setM_step (l : List Int) (f i : Nat) (k : Int) : (setM l f i k).set (f + i) k = setM l f (i + 1) k := by
  refine List.ext_getElem? fun j => ?_
  unfold setM
  rw [List.getElem?_set, List.getElem?_mapIdx, List.length_mapIdx, List.getElem?_mapIdx]
  by_cases e : f + i = j
  · subst e
    rw [if_pos rfl]
    by_cases h : f + i < l.length
    · rw [if_pos h, List.getElem?_eq_getElem h]
      simp
    · rw [if_neg h, List.getElem?_eq_none (by omega)]
      rfl
  · rw [if_neg e]
    congr 1
    funext x
    by_cases h : f ≤ j ∧ j < f + i
    · rw [if_pos h, if_pos ⟨h.1, by omega⟩]
    · rw [if_neg h, if_neg (by omega)]
theorem setM_zero (l : List Int) (f : Nat) (k : Int) : setM l f 0 k = l := by
  refine List.ext_getElem? fun j => ?_
  unfold setM
  rw [List.getElem?_mapIdx]
  cases l[j]? with
  | none => rfl
  | some x =>
    show some (if f ≤ j ∧ j < f + 0 then k else x) = some x
    rw [if_neg (by omega)]
def sp_Pages_set_marks (K : PySem.W.Frag) : Sp := fun vs H Q _ => ∃ (a : Addr) (m m' : MPages) (first many mark : Int) (c F : Cells), vs = [.ref a, .int first, .int many, .int mark] ∧ PagesAt K a m c ∧ Owns H (c + F) ∧ m.setMarks first many mark = some m' ∧
  ∀ H' c', PagesAt K a m' c' → Owns H' (c' + F) → Q .non H'
theorem sc_Pages_set_marks : FnScope ["self", "first", "many", "mark", "page"] ["self", "first", "many", "mark"] (defScope s_Pages_set_marks) := ⟨rfl, rfl, rfl, by decide +kernel, rfl, by decide +kernel, by decide +kernel⟩
theorem ok_Pages_set_marks (T : Env K mg) : DOk P w K mg base 1 ("Pages", some "set_marks") ["self", "first", "many", "mark"] (sp_Pages_set_marks K) := by
  obtain ⟨fd, F⟩ := T.d_Pages_set_marks
  refine ⟨fd, F.ok sc_Pages_set_marks (fun vs H Q E h => ?_) (fun cdv A outer s H vs Q E hr h => ?_), F.bindsN fun _ _ _ _ _ _ us hl => match us, hl with | [_, _, _, _], _ => rfl, F.kp⟩
  · obtain ⟨a, m, m', first, many, mark, c, F, rfl, ⟨hz, dx, mk, rn, rfl⟩, hO, hm, k⟩ := h
    rfl
  · obtain ⟨a, m, m', first, many, mark, c, F, rfl, ⟨hz, dx, mk, rn, rfl⟩, hO, hm, k⟩ := h
    refine ⟨_, PSs.nox (pss_one (ps_for PassesOwn.never rfl (pi_range2 (by rfl) T.f_range (pa_cons (pv 1) (pa_cons (pe_op op_add (pv 1) (pv 2)) pa_nil))) (pg_name (i := 4) sc_Pages_set_marks.nd rfl (Or.inl rfl))
        (pss_one (ps_asg (pv 3) (pg_sub (kfld (K := K) rfl (pv 0) rfl) (pv 4) set_list))))), ?_⟩
    unfold MPages.setMarks at hm
    split at hm
    case isFalse => cases hm
    rename_i hb
    obtain ⟨b1, b2, b3⟩ := hb
    cases hm
    refine ⟨_, rfl, _, rfl, _, rfl, _, _, rfl, rfl, _, _, rfl, ⟨by omega, by omega, by omega, by omega⟩, for_range (lo := first) (n := (first + many - first).toNat) (fun i σ H' => ∃ v : Option V, σ = [some (.ref a), some (.int first), some (.int many), some (.int mark), v] ∧
      Owns H' (cel a (oPages K dx m mk rn) + (cel mk (.lst ((setM m.marks first.toNat i mark).map V.int)) + cel rn (.dK (dk gI m.runs))) + F)) ⟨none, rfl, by rw [setM_zero]; exact hO⟩ ?_ ?_⟩
    · rintro i σ H' hi ⟨v, rfl, h⟩
      refine ⟨_, rfl, _, rfl, _, _, _, _, _, rfl, h.rd a, T.c_Pages, T.n_Pages_marks, lkz ix_Pages_marks _, _, rfl, _, _, _, first.toNat + i, rfl, rfl, h.rd mk, ?_, ?_⟩
      · rw [List.length_map, setM_length]
        exact ixN_nat (by omega) (by omega)
      · have h2 := h.up mk (.lst (((setM m.marks first.toNat i mark).map V.int).set (first.toNat + i) (V.int mark)))
        refine ⟨_, rfl, ?_⟩
        have e : ((setM m.marks first.toNat i mark).map V.int).set (first.toNat + i) (V.int mark) = (setM m.marks first.toNat (i + 1) mark).map V.int := by
          rw [← List.map_set, setM_step]
        rw [e] at h2 ⊢
        exact h2.to (by ac_rfl)
    · rintro σ H' ⟨v, rfl, h⟩
      refine k _ _ ⟨?_, dx, mk, rn, rfl⟩ ?_
      · show (setM _ _ _ _).length ≤ _
        rw [setM_length]
        exact hz
      · rw [show (first + many - first).toNat = many.toNat by omega] at h
        exact h
def sp_Pages_free_place (K : PySem.W.Frag) : Sp := fun vs H Q _ => ∃ (a : Addr) (m : MPages) (many : Int) (c F : Cells), vs = [.ref a, .int many] ∧ PagesAt K a m c ∧ Owns H (c + F) ∧
  ∀ H', Owns H' (c + F) → Q (match freePlace m.marks many with | none => .non | some p => .int p) H'
theorem sc_Pages_free_place : FnScope ["self", "many", "row", "page", "mark"] ["self", "many"] (defScope s_Pages_free_place) := ⟨rfl, rfl, rfl, by decide +kernel, rfl, by decide +kernel, by decide +kernel⟩
theorem ok_Pages_free_place (T : Env K mg) : DOk P w K mg base 1 ("Pages", some "free_place") ["self", "many"] (sp_Pages_free_place K) := by
  obtain ⟨fd, F⟩ := T.d_Pages_free_place
  refine ⟨fd, F.ok sc_Pages_free_place (fun vs H Q E h => ?_) (fun cdv A outer s H vs Q E hr h => ?_), F.bindsN fun _ _ _ _ _ _ us hl => match us, hl with | [_, _], _ => rfl, F.kp⟩
  · obtain ⟨a, m, many, c, F, rfl, ⟨hz, dx, mk, rn, rfl⟩, hO, k⟩ := h
    rfl
  · obtain ⟨a, m, many, c, F, rfl, ⟨hz, dx, mk, rn, rfl⟩, hO, k⟩ := h
    refine ⟨_, PSs.nox (pss_cons (ps_set (i := 2) sc_Pages_free_place.nd rfl (Or.inl rfl) pe_int)
      (pss_cons (ps_for PassesOwn.never rfl (pi_enum (by rfl) T.f_enumerate (pa_cons (kfld (K := K) rfl (pv 0) rfl) pa_nil)) (ktup (K := K) rfl rfl (pgs_cons (pg_name (i := 3) sc_Pages_free_place.nd rfl (Or.inl rfl)) (pgs_cons (pg_name (i := 4) sc_Pages_free_place.nd rfl (Or.inl rfl)) pgs_nil)))
        (pss_cons (ps_set (i := 2) sc_Pages_free_place.nd rfl (Or.inl rfl) (pe_ifExp (pt_cmpR op_eq (pv 4) (pe_gi T.i_FREE) (nomark _)) (pe_op op_add (pv 2) pe_int) pe_int))
      (pss_one (ps_if (pt_cmpR op_eq (pv 2) (pv 1) (nomark _))
        (pss_one (ps_ret (pe_op op_sub (pe_op op_add (pv 3) pe_int) (pv 1))))
        pss_nil))))
      (pss_one (ps_ret pe_non)))), ?_⟩
    refine ⟨_, rfl, _, _, _, _, _, rfl, hO.rd a, T.c_Pages, T.n_Pages_marks, lkz ix_Pages_marks _, _, _, rfl, SqL.of (hO.rd mk), for_it (walk_enum (xs := m.marks.map V.int)) (fun i σ H' => ∃ (row : Int) (v1 v2 : Option V), σ = [some (.ref a), some (.int many), some (.int row), v1, v2] ∧
      Owns H' (cel a (oPages K dx m mk rn) + (cel mk (.lst (m.marks.map V.int)) + cel rn (.dK (dk gI m.runs))) + F) ∧ fpGo many (m.marks.drop i) (i : Int) row = freePlace m.marks many) ⟨0, none, none, rfl, hO, rfl⟩ (fun i σ H' _ h => ?_) ?_ ?_⟩
    · obtain ⟨_, _, _, _, h, _⟩ := h
      exact SqL.of (h.rd mk)
    · rintro i y σ H' H'' hi ⟨row, v1, v2, rfl, h, hf⟩ ⟨p, x1, x2, rfl, hp, rfl, e1, e2⟩
      cases e1
      obtain ⟨z, hz1, rfl⟩ := get_ints e2
      have h2 := h.new hp (o := .tup [.int ((i : Nat) : Int), .int z])
      have hd : m.marks.drop i = z :: m.marks.drop (i + 1) := by
        obtain ⟨h3, h4⟩ := List.getElem?_eq_some_iff.mp hz1
        rw [List.drop_eq_getElem_cons h3, h4]
      rw [hd] at hf
      have hf2 : (if (if z = 1 then row + 1 else 0) = many then some ((i : Int) + 1 - many) else fpGo many (m.marks.drop (i + 1)) ((i : Int) + 1) (if z = 1 then row + 1 else 0)) = freePlace m.marks many := hf
      refine ⟨p, _, rfl, SqT.of (h2.rd p), rfl, _, _, rfl, _, _, rfl, rfl, ?_⟩
      refine ⟨_, rfl, rfl, _, rfl, ?_⟩
      rw [dec_int]
      have fin : ∀ r : Int, r = (if z = 1 then row + 1 else 0) → (tSeq (tIfS (tTest (tOp rEq (tVar 2) (tVar 1))) (tRet (tOp (rI0 fun i j => .int (i - j)) (tOp (rI0 fun i j => .int (i + j)) (tVar 3) (tC (.int 1))) (tVar 1))) tNext) tNext)
          { nx := fun σ H' => ∃ (row : Int) (v1 v2 : Option V), σ = [some (.ref a), some (.int many), some (.int row), v1, v2] ∧
            Owns H' (cel a (oPages K dx m mk rn) + (cel mk (.lst (m.marks.map V.int)) + cel rn (.dK (dk gI m.runs))) + F) ∧ fpGo many (m.marks.drop (i + 1)) ((i + 1 : Nat) : Int) row = freePlace m.marks many, rt := Q }
          [some (.ref a), some (.int many), some (.int r), some (.int (i : Int)), some (.int z)] (upd H' p (.tup [.int ((i : Nat) : Int), .int z])) := fun r er => by
        rw [← er] at hf2
        refine ⟨_, rfl, _, rfl, rfl, _, rfl, ?_⟩
        rw [dec_int]
        refine ite2 (fun q => ?_) (fun q => ?_)
        · rw [if_pos (of_decide_eq_true q)] at hf2
          have g := k _ h2.r
          rw [← hf2] at g
          exact ⟨_, rfl, _, _, rfl, rfl, _, rfl, _, _, rfl, rfl, g⟩
        · rw [if_neg fun w => q (decide_eq_true w)] at hf2
          refine ⟨r, _, _, rfl, h2.r, ?_⟩
          rw [Int.natCast_add]
          exact hf2
      by_cases hz2 : z = 1
      · rw [decide_eq_true hz2]
        refine iteT ⟨_, rfl, _, _, rfl, rfl, ?_⟩
        exact fin (row + 1) (by rw [if_pos hz2])
      · rw [decide_eq_false hz2]
        refine iteF ?_
        exact fin 0 (by rw [if_neg hz2])
    · rintro σ H' ⟨row, v1, v2, rfl, h, hf⟩
      rw [List.length_map, List.drop_length] at hf
      have g := k _ h
      rw [← hf] at g
      exact g
def sp_Pages_highest_free (K : PySem.W.Frag) : Sp := fun vs H Q _ => ∃ (a : Addr) (m : MPages) (c F : Cells), vs = [.ref a] ∧ PagesAt K a m c ∧ Owns H (c + F) ∧
  ∀ H' p, Owns H' (cel p (.tup [.int (hiF m.marks : Int), .int ((hiE m.marks : Int) - (hiF m.marks : Int))]) + (c + F)) → Q (.ref p) H'
theorem hiEnd_le (l : List Int) : ∀ n, hiEnd l n ≤ n
  | 0 => Nat.le_refl 0
  | n + 1 => by
    unfold hiEnd
    by_cases h : l[n]? = some 1
    · rw [if_pos h]; exact Nat.le_refl _
    · rw [if_neg h]; exact Nat.le_succ_of_le (hiEnd_le l n)
theorem hiFirst_le (l : List Int) : ∀ n, hiFirst l n ≤ n
  | 0 => Nat.le_refl 0
  | n + 1 => by
    unfold hiFirst
    by_cases h : l[n]? = some 1
    · rw [if_pos h]; exact Nat.le_succ_of_le (hiFirst_le l n)
    · rw [if_neg h]; exact Nat.le_refl _
theorem sc_Pages_highest_free : FnScope ["self", "end", "first"] ["self"] (defScope s_Pages_highest_free) := ⟨rfl, rfl, rfl, by decide +kernel, rfl, by decide +kernel, by decide +kernel⟩
theorem ok_Pages_highest_free (T : Env K mg) : DOk P w K mg base 1 ("Pages", some "highest_free") ["self"] (sp_Pages_highest_free K) := by
  obtain ⟨fd, F⟩ := T.d_Pages_highest_free
  refine ⟨fd, F.ok sc_Pages_highest_free (fun vs H Q E h => ?_) (fun cdv A outer s H vs Q E hr h => ?_), F.bindsN fun _ _ _ _ _ _ us hl => match us, hl with | [_], _ => rfl, F.kp⟩
  · obtain ⟨a, m, c, F, rfl, ⟨hz, dx, mk, rn, rfl⟩, hO, k⟩ := h
    rfl
  · obtain ⟨a, m, c, F, rfl, ⟨hz, dx, mk, rn, rfl⟩, hO, k⟩ := h
    refine ⟨_, PSs.nox (pss_cons (ps_set (i := 1) sc_Pages_highest_free.nd rfl (Or.inl rfl) (pe_callB call_len_seq (by rfl) T.f_len PySem.boot_len (pa_cons (kfld (K := K) rfl (pv 0) rfl) pa_nil)))
      (pss_cons (ps_while PassesOwn.never (PW.pt (pw_and (pt_cmpR op_gt (pv 1) pe_int (nomark _)) (pw_and1 (pt_cmpR op_ne (pe_ix (kix (K := K) rfl) (kfld (K := K) rfl (pv 0) rfl) (pe_op op_sub (pv 1) pe_int) (fun _ _ => rfl)) (pe_gi T.i_FREE) (nomark _)))))
        (pss_one (ps_aug (i := 1) sc_Pages_highest_free.nd rfl (.inl rfl) pe_int ip_sub)))
      (pss_cons (ps_set (i := 2) sc_Pages_highest_free.nd rfl (Or.inl rfl) (pv 1))
      (pss_cons (ps_while PassesOwn.never (PW.pt (pw_and (pt_cmpR op_gt (pv 2) pe_int (nomark _)) (pw_and1 (pt_cmpR op_eq (pe_ix (kix (K := K) rfl) (kfld (K := K) rfl (pv 0) rfl) (pe_op op_sub (pv 2) pe_int) (fun _ _ => rfl)) (pe_gi T.i_FREE) (nomark _)))))
        (pss_one (ps_aug (i := 2) sc_Pages_highest_free.nd rfl (.inl rfl) pe_int ip_sub)))
      (pss_one (ps_ret (pe_tup (pa_cons (pv 2) (pa_cons (pe_op op_sub (pv 1) (pv 2)) pa_nil))))))))), ?_⟩
    refine ⟨_, rfl, _, _, _, _, _, rfl, hO.rd a, T.c_Pages, T.n_Pages_marks, lkz ix_Pages_marks _, _, _, rfl, .inl (SqL.of (hO.rd mk)), ?_⟩
    refine ⟨fun n σ H' => ∃ v : Option V, σ = [some (.ref a), some (.int (n : Int)), v] ∧ Owns H' (cel a (oPages K dx m mk rn) + (cel mk (.lst (m.marks.map V.int)) + cel rn (.dK (dk gI m.runs))) + F) ∧ n ≤ m.marks.length ∧ hiEnd m.marks n = hiE m.marks,
      ⟨m.marks.length, none, by rw [List.length_map] <;> rfl, hO, Nat.le_refl _, rfl⟩, ?_⟩
    rintro n σ H' ⟨v, rfl, h, hn, he⟩
    refine ⟨_, rfl, _, _, rfl, rfl, _, rfl, ?_⟩
    -- what follows the first loop
    have after : hiE m.marks = n → tSeq (tAsg (tVar 1) (gName 2)) (tSeq (tWhile (tAnd (tTest (tOp (rI0 fun i j => .bl (decide (j < i))) (tVar 2) (tC (.int 0)))) (tTest (tOp rEq (tOp (rIxL K) (tFld K (tVar 0) "marks") (tOp (rI0 fun i j => .int (i - j)) (tVar 2) (tC (.int 1)))) (tC (.int 1)))))
        (tAug 2 (tC (.int 1)) (ipI fun i j => i - j))) (tRet (tTup (tCons (tVar 2) (tCons (tOp (rI0 fun i j => .int (i - j)) (tVar 1) (tVar 2)) tNil))))) { nx := fun _ H' => Q .non H', rt := Q } [some (.ref a), some (.int (n : Int)), v] H' := fun en => by
      refine ⟨_, rfl, ?_⟩
      refine ⟨fun j σ H' => σ = [some (.ref a), some (.int (n : Int)), some (.int (j : Int))] ∧ Owns H' (cel a (oPages K dx m mk rn) + (cel mk (.lst (m.marks.map V.int)) + cel rn (.dK (dk gI m.runs))) + F) ∧ j ≤ n ∧ hiFirst m.marks j = hiF m.marks,
        ⟨n, rfl, h, Nat.le_refl _, by rw [← en] <;> rfl⟩, ?_⟩
      rintro j σ H' ⟨rfl, h, hj, hf⟩
      refine ⟨_, rfl, _, _, rfl, rfl, _, rfl, ?_⟩
      have fin : hiF m.marks = j → tRet (tTup (tCons (tVar 2) (tCons (tOp (rI0 fun i j => .int (i - j)) (tVar 1) (tVar 2)) tNil))) { nx := fun _ H' => Q .non H', rt := Q } [some (.ref a), some (.int (n : Int)), some (.int (j : Int))] H' := fun ej => by
        refine ⟨_, rfl, _, rfl, _, rfl, _, _, rfl, rfl, (by show 2 ≤ sizeLine; decide), fun p hp => ?_⟩
        rw [← en, ← ej]
        exact k _ _ (h.new hp)
      cases j with
      | zero => exact iteF (iteF (fin hf.symm))
      | succ j =>
        refine iteYd (by omega) ?_
        have hlt : j < m.marks.length := by omega
        refine ⟨_, rfl, _, _, _, _, _, rfl, h.rd a, T.c_Pages, T.n_Pages_marks, lkz ix_Pages_marks _, _, rfl, _, _, rfl, rfl, mk, _, _, .int (m.marks[j]'hlt), rfl, rfl, SqL.of (h.rd mk), at_int (by omega) (List.getElem?_eq_getElem hlt), rfl, _, rfl, ?_⟩
        rw [dec_int]
        unfold hiFirst at hf
        rw [List.getElem?_eq_getElem hlt] at hf
        by_cases q : m.marks[j]'hlt = 1
        · rw [decide_eq_true q]
          rw [if_pos (by rw [q])] at hf
          refine iteT ⟨_, fun σ' H' z => ⟨j, Nat.lt_succ_self j, z⟩, ?_⟩
          refine ⟨_, rfl, _, _, rfl, rfl, ?_⟩
          refine ⟨?_, h, by omega, hf⟩
          show [some (V.ref a), some (V.int (n : Int)), some (V.int (((j + 1 : Nat) : Int) - 1))] = _
          rw [show ((j + 1 : Nat) : Int) - 1 = (j : Int) by omega]
        · rw [decide_eq_false q]
          rw [if_neg (fun w => q (Option.some.inj w))] at hf
          exact iteF (fin hf.symm)
    cases n with
    | zero => exact iteF (iteF (after he.symm))
    | succ n =>
      refine iteYd (by omega) ?_
      have hlt : n < m.marks.length := by omega
      refine ⟨_, rfl, _, _, _, _, _, rfl, h.rd a, T.c_Pages, T.n_Pages_marks, lkz ix_Pages_marks _, _, rfl, _, _, rfl, rfl, mk, _, _, .int (m.marks[n]'hlt), rfl, rfl, SqL.of (h.rd mk), at_int (by omega) (List.getElem?_eq_getElem hlt), rfl, _, rfl, ?_⟩
      rw [dec_int]
      have he2 := he
      unfold hiEnd at he
      rw [List.getElem?_eq_getElem hlt] at he
      by_cases q : m.marks[n]'hlt = 1
      · rw [decide_eq_true q]
        rw [if_pos (by rw [q])] at he
        exact iteF (after he.symm)
      · rw [decide_eq_false q]
        rw [if_neg (fun w => q (Option.some.inj w))] at he
        refine iteT ⟨_, fun σ' H' z => ⟨n, Nat.lt_succ_self n, z⟩, ?_⟩
        refine ⟨_, rfl, _, _, rfl, rfl, ?_⟩
        refine ⟨v, ?_, h, by omega, he⟩
        show [some (V.ref a), some (V.int (((n + 1 : Nat) : Int) - 1)), v] = _
        rw [show ((n + 1 : Nat) : Int) - 1 = (n : Int) by omega]
def sp_Pages_trim (K : PySem.W.Frag) : Sp := fun vs H Q _ => ∃ (a b : Addr) (m m' : MPages) (A A' : MAsks) (keep : Int) (c d F : Cells), vs = [.ref a, .ref b, .int keep] ∧ PagesAt K a m c ∧ AsksAt K b A d ∧ Owns H (c + (d + F)) ∧ m.trim A keep = some (A', m') ∧
  ∀ H' c' d', PagesAt K a m' c' → AsksAt K b A' d' → Owns H' (c' + (d' + F)) → Q .non H'
theorem sc_Pages_trim : FnScope ["self", "asks", "keep", "left", "first", "many", "gone", "begin"] ["self", "asks", "keep"] (defScope s_Pages_trim) := ⟨rfl, rfl, rfl, by decide +kernel, rfl, by decide +kernel, by decide +kernel⟩
theorem ok_Pages_trim (T : Env K mg) : DOk P w K mg base 3 ("Pages", some "trim") ["self", "asks", "keep"] (sp_Pages_trim K) := by
  obtain ⟨fd, F⟩ := T.d_Pages_trim
  refine ⟨fd, F.ok sc_Pages_trim (fun vs H Q E h => ?_) (fun cdv A outer s H vs Q E hr h => ?_), F.bindsN fun _ _ _ _ _ _ us hl => match us, hl with | [_, _, _], _ => rfl, F.kp⟩
  · obtain ⟨a, b, m, m', A0, A', keep, c, d, F, rfl, hP, hA, hO, hm, k⟩ := h
    rfl
  · obtain ⟨a, b, m, m', A0, A', keep, c, d, F, rfl, hP, hA, hO, hm, k⟩ := h
    refine ⟨_, PSs.nox (pss_cons (ps_set (i := 3) sc_Pages_trim.nd rfl (Or.inl rfl) (pe_op op_sub (pmt (K := K) rfl (pv 0) T.c_Pages T.m_Pages_count_of (ok_Pages_count_of T) (hr.mono (by decide)) (pa_cons (pe_gi T.i_FREE) pa_nil)) (pv 2)))
      (pss_one (ps_while PassesOwn.never (pt_cmpR op_gt (pv 3) pe_int (nomark _))
        (pss_cons (ps_asg (pmt0 (K := K) rfl (pv 0) T.c_Pages T.m_Pages_highest_free (ok_Pages_highest_free T) (hr.mono (by decide))) (ktup (K := K) rfl rfl (pgs_cons (pg_name (i := 4) sc_Pages_trim.nd rfl (Or.inl rfl)) (pgs_cons (pg_name (i := 5) sc_Pages_trim.nd rfl (Or.inl rfl)) pgs_nil))))
      (pss_cons (ps_set (i := 6) sc_Pages_trim.nd rfl (Or.inl rfl) (pe_callB (call_min2 rfl) (by rfl) T.f_min (by decide +kernel) (pa_cons (pv 3) (pa_cons (pv 5) pa_nil))))
      (pss_cons (ps_set (i := 7) sc_Pages_trim.nd rfl (Or.inl rfl) (pe_op op_sub (pe_op op_add (pv 4) (pv 5)) (pv 6)))
      (pss_cons (ps_expr (pmt (K := K) rfl (pv 0) T.c_Pages T.m_Pages_set_marks (ok_Pages_set_marks T) (hr.mono (by decide)) (pa_cons (pv 7) (pa_cons (pv 6) (pa_cons (pe_gi T.i_OUTSIDE) pa_nil)))))
      (pss_cons (ps_fldaug (pv 0) (pv 6) in_add)
      (pss_cons (ps_aug (i := 3) sc_Pages_trim.nd rfl (.inl rfl) (pv 6) ip_sub)
      (pss_one (ps_expr (pmt (K := K) rfl (pv 1) T.c_Asks T.m_Asks_less (ok_Asks_less T) (hr.mono (by decide)) (pa_cons (pv 7) (pa_cons (pv 6) pa_nil)))))))))))))), ?_⟩
    obtain ⟨hz, dx, mk, rn, rfl⟩ := id hP
    refine ⟨_, rfl, _, _, _, rfl, hO.rd a, lkn nx_Pages_count_of _, a, m, 1, _, d + F, rfl, hP, hO, fun H1 h1 => ?_⟩
    refine ⟨_, rfl, _, _, rfl, rfl, ?_⟩
    refine ⟨fun n σ H' => ∃ (m1 : MPages) (A1 : MAsks) (left : Int) (c1 d1 : Cells) (v1 v2 v3 v4 : Option V), σ = [some (.ref a), some (.ref b), some (.int keep), some (.int left), v1, v2, v3, v4] ∧ PagesAt K a m1 c1 ∧ AsksAt K b A1 d1 ∧ Owns H' (c1 + (d1 + F)) ∧ trimL n A1 m1 left = some (A', m'),
      ⟨(countM m.marks 1 - keep).toNat, m, A0, _, _, d, none, none, none, none, rfl, hP, hA, h1, hm⟩, ?_⟩
    rintro n σ H' ⟨m1, A1, left, c1, d1, v1, v2, v3, v4, rfl, hP1, hA1, h, ht⟩
    refine ⟨_, rfl, _, _, rfl, rfl, _, rfl, ?_⟩
    refine ite2 (fun q => ?_) (fun q => ?_)
    · have q : 0 < left := of_decide_eq_true q
      cases n with
      | zero =>
        unfold trimL at ht
        rw [if_pos q] at ht
        cases ht
      | succ n =>
        unfold trimL at ht
        rw [if_pos q] at ht
        obtain ⟨m2, hm2, ht⟩ := Option.bind_eq_some_iff.mp ht
        obtain ⟨A2, hA2, ht⟩ := Option.bind_eq_some_iff.mp ht
        refine ⟨_, fun σ' H' z => ⟨n, Nat.lt_succ_self n, z⟩, ?_⟩
        obtain ⟨hz1, dx1, mk1, rn1, rfl⟩ := id hP1
        -- first, many = self.highest_free()
        refine ⟨_, rfl, _, _, _, rfl, h.rd a, lkn nx_Pages_highest_free _, a, m1, _, d1 + F, rfl, hP1, h, fun H2 p h2 => ?_⟩
        refine ⟨p, _, rfl, SqT.of h2.get, rfl, _, _, rfl, _, _, rfl, rfl, ?_⟩
        -- gone = min(left, many)
        refine ⟨_, rfl, _, rfl, _, _, rfl, ?_⟩
        -- begin = first + many - gone
        refine ⟨_, rfl, _, rfl, _, _, rfl, rfl, _, rfl, _, _, rfl, rfl, ?_⟩
        -- self.set_marks(begin, gone, OUTSIDE)
        refine ⟨_, rfl, _, _, _, rfl, h2.r.rd a, lkn nx_Pages_set_marks _, _, rfl, _, rfl, a, m1, m2, _, _, 0, _, d1 + F, rfl, hP1, h2.r, hm2, fun H3 c3 hP3 h3 => ?_⟩
        obtain ⟨hz3, dx3, mk3, rn3, rfl⟩ := id hP3
        -- self.went += gone
        refine ⟨_, rfl, _, _, _, _, _, rfl, h3.rd a, T.c_Pages, T.n_Pages_went, lkz ix_Pages_went _, _, rfl, _, _, rfl, rfl, _, _, h3.rd a, lnz (by decide) _, ?_⟩
        have h4 : Owns _ (cel a (oPages K dx3 { m2 with went := m2.went + goneM m1.marks left } mk3 rn3) + _) := h3.upF a ix_Pages_went (.int (m2.went + goneM m1.marks left))
        -- left -= gone
        refine ⟨_, rfl, _, rfl, _, _, rfl, rfl, ?_⟩
        -- asks.less(begin, gone)
        obtain ⟨dxa, al, ql, rs, hrs, rfl⟩ := id hA1
        refine ⟨_, rfl, _, _, _, rfl, h4.rd b, lkn nx_Asks_less _, _, rfl, _, rfl, ?_⟩
        refine ⟨b, A1, A2, _, _, _, _, rfl, hA1, h4.to (by
          show _ = _ + (cel a (oPages K dx3 { m2 with went := m2.went + goneM m1.marks left } mk3 rn3) + (cel mk3 (.lst (m2.marks.map V.int)) + cel rn3 (.dK (dk gI m2.runs))) + F)
          ac_rfl), hA2, fun H5 c5 hA5 h5 => ?_⟩
        exact ⟨{ m2 with went := m2.went + goneM m1.marks left }, A2, left - goneM m1.marks left, _, c5, _, _, _, _, rfl, ⟨hz3, dx3, mk3, rn3, rfl⟩, hA5, h5.to (by ac_rfl), ht⟩
    · have q : ¬ 0 < left := fun w => q (decide_eq_true w)
      have e : some (A1, m1) = some (A', m') := by
        cases n with
        | zero =>
          unfold trimL at ht
          rw [if_neg q] at ht
          exact ht
        | succ n =>
          unfold trimL at ht
          rw [if_neg q] at ht
          exact ht
      obtain ⟨rfl, rfl⟩ := Prod.mk.inj (Option.some.inj e)
      exact k _ _ _ hP1 hA1 h
end
end GK
end
section
set_option Elab.async false
set_option linter.all false
set_option maxRecDepth 100000
set_option maxHeartbeats 4000000
namespace GK
open PySem PySem.Spec PyProof.Rows L2
section
variable {P : Program} {w : World} {K : PySem.W.Frag} {mg : Str → Option Value} {base : Heap}
theorem all_range (l : List Int) (p : Int → Bool) : ∀ (n f : Nat), f + n ≤ l.length → ((l.drop f).take n).all p = (List.range n).all fun i => p ((l[f + i]?).getD 0)
  | 0, f, _ => by rw [List.take_zero] <;> rfl
  | n + 1, f, h => by
    rw [List.take_add_one, List.all_append, all_range l p n f (by omega), List.range_succ, List.all_append]
    congr 1
    rw [List.getElem?_drop, List.getElem?_eq_getElem (show f + n < l.length by omega)]
    simp [List.getElem?_eq_getElem (show f + n < l.length by omega)]
def sp_Pages_may_come (K : PySem.W.Frag) : Sp := fun vs H Q _ => ∃ (a : Addr) (m : MPages) (first many : Int) (c F : Cells), vs = [.ref a, .int first, .int many] ∧ 0 ≤ many ∧ PagesAt K a m c ∧ Owns H (c + F) ∧
  ∀ H', Owns H' (c + F) → Q (.bl (mayCome m.marks first many)) H'
theorem sc_Pages_may_come : FnScope ["self", "first", "many", "page"] ["self", "first", "many"] (defScope s_Pages_may_come) := ⟨rfl, rfl, rfl, by decide +kernel, rfl, by decide +kernel, by decide +kernel⟩
theorem ok_Pages_may_come (T : Env K mg) : DOk P w K mg base 1 ("Pages", some "may_come") ["self", "first", "many"] (sp_Pages_may_come K) := by
  obtain ⟨fd, F⟩ := T.d_Pages_may_come
  refine ⟨fd, F.ok sc_Pages_may_come (fun vs H Q E h => ?_) (fun cdv A outer s H vs Q E hr h => ?_), F.bindsN fun _ _ _ _ _ _ us hl => match us, hl with | [_, _, _], _ => rfl, F.kp⟩
  · obtain ⟨a, m, first, many, c, F, rfl, hm0, ⟨hz, dx, mk, rn, rfl⟩, hO, k⟩ := h
    rfl
  · obtain ⟨a, m, first, many, c, F, rfl, hm0, ⟨hz, dx, mk, rn, rfl⟩, hO, k⟩ := h
    refine ⟨_, PSs.nox (pss_cons (ps_if (PW.pt (pw_or (pt_cmpR op_lt (pv 1) pe_int (nomark _)) (pw_or1 (pt_cmpR op_gt (pe_op op_add (pv 1) (pv 2)) (pe_callB call_len_seq (by rfl) T.f_len PySem.boot_len (pa_cons (kfld (K := K) rfl (pv 0) rfl) pa_nil)) (nomark _)))))
        (pss_one (ps_ret pe_bl))
        pss_nil)
      (pss_one (ps_ret (pe_callB (cr_all rfl) (by rfl) T.f_all (by decide +kernel) (pa_cons (pe_lc (own := [("page", 3)]) (g := gName 3) rfl sc_Pages_may_come.nd (pi_range2 (by rfl) T.f_range (pa_cons (pv 1) (pa_cons (pe_op op_add (pv 1) (pv 2)) pa_nil))) (blkOk_by (own := [("page", 3)]) (N := ["self", "first", "many", "page"]) (sc := defScope s_Pages_may_come) (by decide +kernel)) (fun _ _ _ _ _ => pg_name (i := 3) sc_Pages_may_come.nd rfl (Or.inl rfl)) (fun _ _ _ _ _ => pts_nil) (fun _ _ _ _ _ => (pe_cmpR op_eq (pe_ix (kix (K := K) rfl) (kfld (K := K) rfl (pv 0) rfl) (pv 3) (fun _ _ => rfl)) (pe_gi T.i_OUTSIDE) (nomark _)))) pa_nil))))), ?_⟩
    refine ⟨_, rfl, _, _, rfl, rfl, _, rfl, ?_⟩
    have no : first < 0 ∨ (m.marks.length : Int) < first + many → Q (.bl false) H := fun h => by
      have g := k _ hO
      unfold mayCome at g
      rw [if_pos h] at g
      exact g
    refine ite2 (fun q => iteT (no (.inl (of_decide_eq_true q)))) (fun q => ?_)
    have q : ¬ first < 0 := fun w => q (decide_eq_true w)
    refine ⟨_, rfl, _, rfl, _, _, rfl, rfl, _, rfl, _, _, _, _, _, rfl, hO.rd a, T.c_Pages, T.n_Pages_marks, lkz ix_Pages_marks _, _, _, rfl, .inl (SqL.of (hO.rd mk)), _, _, rfl, rfl, _, rfl, ?_⟩
    rw [List.length_map]
    refine ite2 (fun q2 => no (.inr (of_decide_eq_true q2))) (fun q2 => ?_)
    have q2 : ¬ (m.marks.length : Int) < first + many := fun w => q2 (decide_eq_true w)
    have en : (first + many - first).toNat = many.toNat := by omega
    refine ⟨_, rfl, _, rfl, _, rfl, _, _, rfl, rfl, _, _, rfl, ⟨by omega, by omega, by omega, by omega⟩, fun D hD => lcA (List.range many.toNat) (fun i => .int (first + (i : Int))) walk_range (by rw [List.length_range, en]) (fun i H x H' hi y => ⟨y.1, i, List.getElem?_range (by rw [← en]; exact hi), y.2⟩) hO (fun _ _ => trivial) (fun _ => true) (fun i => V.bl (decide ((m.marks[first.toNat + i]?).getD 0 = 0))) hD (mil (by omega)) (fun _ => rfl) (fun _ _ _ _ Q q => q) (fun i hi _ H h Q q => ?_) (fun H h => ?_)⟩
    · have hi2 := List.mem_range.mp hi
      have hlt : first.toNat + i < m.marks.length := by omega
      refine ⟨_, rfl, _, _, _, _, _, rfl, h.rd a, T.c_Pages, T.n_Pages_marks, lkz ix_Pages_marks _, _, rfl, mk, _, _, .int (m.marks[first.toNat + i]'hlt), rfl, rfl, SqL.of (h.rd mk), at_int (by omega) (List.getElem?_eq_getElem hlt), rfl, ?_⟩
      rw [dec_int]
      rw [List.getElem?_eq_getElem hlt] at q
      exact q
    · refine ⟨D, (List.range many.toNat).map fun i => decide ((m.marks[first.toNat + i]?).getD 0 = 0), rfl, SqL.of (by
        have g := h.get
        rw [List.filter_eq_self.mpr (fun _ _ => rfl)] at g
        rw [List.map_map]
        exact g), ?_⟩
      have g := k _ h.r
      unfold mayCome at g
      rw [if_neg (by omega), all_range _ _ _ _ (by omega)] at g
      rw [List.all_map]
      exact g
def sp_Pages_ask (K : PySem.W.Frag) : Sp := fun vs H Q _ => ∃ (a b : Addr) (m m' : MPages) (A A' : MAsks) (many : Int) (r : Bool) (c d F : Cells), vs = [.ref a, .ref b, .int many] ∧ PagesAt K a m c ∧ AsksAt K b A d ∧ Owns H (c + (d + F)) ∧ m.ask A many = some (A', m', r) ∧
  ∀ H' c' d', PagesAt K a m' c' → AsksAt K b A' d' → Owns H' (c' + (d' + F)) → Q (.bl r) H'
theorem sc_Pages_ask : FnScope ["self", "asks", "many", "first"] ["self", "asks", "many"] (defScope s_Pages_ask) := ⟨rfl, rfl, rfl, by decide +kernel, rfl, by decide +kernel, by decide +kernel⟩
theorem ok_Pages_ask (T : Env K mg) : DOk P w K mg base 3 ("Pages", some "ask") ["self", "asks", "many"] (sp_Pages_ask K) := by
  obtain ⟨fd, F⟩ := T.d_Pages_ask
  refine ⟨fd, F.ok sc_Pages_ask (fun vs H Q E h => ?_) (fun cdv A outer s H vs Q E hr h => ?_), F.bindsN fun _ _ _ _ _ _ us hl => match us, hl with | [_, _, _], _ => rfl, F.kp⟩
  · obtain ⟨a, b, m, m', A0, A', many, r, c, d, F, rfl, hP, hA, hO, hm, k⟩ := h
    rfl
  · obtain ⟨a, b, m, m', A0, A', many, r, c, d, F, rfl, hP, hA, hO, hm, k⟩ := h
    refine ⟨_, PSs.nox (pss_cons (ps_set (i := 3) sc_Pages_ask.nd rfl (Or.inl rfl) (pmt (K := K) rfl (pv 1) T.c_Asks T.m_Asks_more (ok_Asks_more T) (hr.mono (by decide)) (pa_cons (pv 2) pa_nil)))
      (pss_cons (ps_fldaug (pv 0) pe_int in_add)
      (pss_cons (ps_if (pt_not (pt_val (pmt (K := K) rfl (pv 0) T.c_Pages T.m_Pages_may_come (ok_Pages_may_come T) (hr.mono (by decide)) (pa_cons (pv 3) (pa_cons (pv 2) pa_nil)))))
        (pss_cons (ps_fldaug (pv 0) pe_int in_add)
      (pss_one (ps_ret pe_bl)))
        pss_nil)
      (pss_cons (ps_expr (pmt (K := K) rfl (pv 0) T.c_Pages T.m_Pages_set_marks (ok_Pages_set_marks T) (hr.mono (by decide)) (pa_cons (pv 3) (pa_cons (pv 2) (pa_cons (pe_gi T.i_FREE) pa_nil)))))
      (pss_cons (ps_fldaug (pv 0) (pv 2) in_add)
      (pss_cons (ksfld (K := K) rfl (pv 0) (pe_callB (call_max2 rfl) (by rfl) T.f_max (by decide +kernel) (pa_cons (kfld (K := K) rfl (pv 0) rfl) (pa_cons (pmt0 (K := K) rfl (pv 0) T.c_Pages T.m_Pages_owned (ok_Pages_owned T) (hr.mono (by decide))) pa_nil))) rfl)
      (pss_one (ps_ret pe_bl)))))))), ?_⟩
    obtain ⟨hz, dx, mk, rn, rfl⟩ := id hP
    unfold MPages.ask at hm
    split at hm
    case isTrue => cases hm
    rename_i hb
    obtain ⟨⟨A1, first⟩, hA1, hm⟩ := Option.bind_eq_some_iff.mp hm
    -- first = asks.more(many)
    obtain ⟨dxa, al, ql, rs, hrs, rfl⟩ := id hA
    refine ⟨_, rfl, _, _, _, rfl, hO.rd b, lkn nx_Asks_more _, _, rfl, b, A0, A1, many, first, _, _, rfl, hA, hO.to (by
      show _ = _ + (cel a (oPages K dx m mk rn) + (cel mk (.lst (m.marks.map V.int)) + cel rn (.dK (dk gI m.runs))) + F)
      ac_rfl), hA1, fun H1 d1 hA2 h1 => ?_⟩
    -- self.asked += 1
    refine ⟨_, rfl, _, _, _, _, _, rfl, h1.rd a, T.c_Pages, T.n_Pages_asked, lkz ix_Pages_asked _, _, _, rfl, rfl, _, _, h1.rd a, lnz (by decide) _, ?_⟩
    have h2 : Owns _ (cel a (oPages K dx { m with asked := m.asked + 1 } mk rn) + _) := h1.upF a ix_Pages_asked (.int (m.asked + 1))
    have hP2 : PagesAt K a { m with asked := m.asked + 1 } (cel a (oPages K dx { m with asked := m.asked + 1 } mk rn) + (cel mk (.lst (m.marks.map V.int)) + cel rn (.dK (dk gI m.runs)))) := ⟨hz, dx, mk, rn, rfl⟩
    -- if not self.may_come(first, many)
    refine ⟨_, rfl, _, _, _, rfl, h2.rd a, lkn nx_Pages_may_come _, _, rfl, _, rfl, a, { m with asked := m.asked + 1 }, first, many, _, d1 + F, rfl, by omega, hP2, h2.to (by ac_rfl), fun H3 h3 => ⟨_, rfl, ?_⟩⟩
    have hm : (if mayCome m.marks first many = true then ({ m with asked := m.asked + 1 }.setMarks first many 1).bind fun m2 => some (A1, { m2 with came := m2.came + many, most := if m2.most < ownedM m2.marks then ownedM m2.marks else m2.most }, true)
      else some (A1, { m with asked := m.asked + 1, refused := m.refused + 1 }, false)) = some (A', m', r) := hm
    by_cases q : mayCome m.marks first many = true
    · rw [if_pos q] at hm
      obtain ⟨m2, hm2, hm⟩ := Option.bind_eq_some_iff.mp hm
      refine iteN (by show (!mayCome m.marks first many) = false; rw [q] <;> rfl) ?_
      -- self.set_marks(first, many, FREE)
      refine ⟨_, rfl, _, _, _, rfl, h3.rd a, lkn nx_Pages_set_marks _, _, rfl, _, rfl, a, { m with asked := m.asked + 1 }, m2, first, many, 1, _, d1 + F, rfl, hP2, h3, hm2, fun H4 c4 hP4 h4 => ?_⟩
      obtain ⟨hz4, dx4, mk4, rn4, rfl⟩ := id hP4
      -- self.came += many
      refine ⟨_, rfl, _, _, _, _, _, rfl, h4.rd a, T.c_Pages, T.n_Pages_came, lkz ix_Pages_came _, _, rfl, _, _, rfl, rfl, _, _, h4.rd a, lnz (by decide) _, ?_⟩
      have h5 : Owns _ (cel a (oPages K dx4 { m2 with came := m2.came + many } mk4 rn4) + _) := h4.upF a ix_Pages_came (.int (m2.came + many))
      have hP5 : PagesAt K a { m2 with came := m2.came + many } (cel a (oPages K dx4 { m2 with came := m2.came + many } mk4 rn4) + (cel mk4 (.lst (m2.marks.map V.int)) + cel rn4 (.dK (dk gI m2.runs)))) := ⟨hz4, dx4, mk4, rn4, rfl⟩
      -- self.most = max(self.most, self.owned())
      refine ⟨_, rfl, _, _, _, _, _, rfl, h5.rd a, T.c_Pages, T.n_Pages_most, lkz ix_Pages_most _, _, rfl, _, _, _, rfl, h5.rd a, lkn nx_Pages_owned _, a, { m2 with came := m2.came + many }, _, d1 + F, rfl, hP5, h5.to (by ac_rfl), fun H6 h6 => ?_⟩
      refine ⟨_, _, rfl, _, rfl, _, _, _, _, rfl, h6.rd a, T.c_Pages, T.n_Pages_most, lnz (by decide) _, ?_⟩
      obtain ⟨rfl, hm'⟩ := Prod.mk.inj (Option.some.inj hm)
      obtain ⟨rfl, rfl⟩ := Prod.mk.inj hm'
      have h7 : Owns _ (cel a (oPages K dx4 { m2 with came := m2.came + many, most := if m2.most < ownedM m2.marks then ownedM m2.marks else m2.most } mk4 rn4) + _) := h6.upF a ix_Pages_most (.int (if m2.most < ownedM m2.marks then ownedM m2.marks else m2.most))
      exact k _ _ _ ⟨hz4, dx4, mk4, rn4, rfl⟩ hA2 (h7.to (by ac_rfl))
    · rw [if_neg q] at hm
      have q : mayCome m.marks first many = false := by simpa using q
      refine iteY (by show (!mayCome m.marks first many) = true; rw [q] <;> rfl) ?_
      obtain ⟨rfl, hm'⟩ := Prod.mk.inj (Option.some.inj hm)
      obtain ⟨rfl, rfl⟩ := Prod.mk.inj hm'
      -- self.refused += 1
      refine ⟨_, rfl, _, _, _, _, _, rfl, h3.rd a, T.c_Pages, T.n_Pages_refused, lkz ix_Pages_refused _, _, _, rfl, rfl, _, _, h3.rd a, lnz (by decide) _, ?_⟩
      have h5 : Owns _ (cel a (oPages K dx { m with asked := m.asked + 1, refused := m.refused + 1 } mk rn) + _) := h3.upF a ix_Pages_refused (.int (m.refused + 1))
      exact k _ _ _ ⟨hz, dx, mk, rn, rfl⟩ hA2 (h5.to (by ac_rfl))
def optV : Option Int → V
  | none => .non
  | some p => .int p
def sp_Pages_place_for (K : PySem.W.Frag) : Sp := fun vs H Q _ => ∃ (a b : Addr) (m m' : MPages) (A A' : MAsks) (many : Int) (r : Option Int) (c d F : Cells), vs = [.ref a, .ref b, .int many] ∧ PagesAt K a m c ∧ AsksAt K b A d ∧ Owns H (c + (d + F)) ∧ m.placeFor A many = some (A', m', r) ∧
  ∀ H' c' d', PagesAt K a m' c' → AsksAt K b A' d' → Owns H' (c' + (d' + F)) → Q (optV r) H'
theorem sc_Pages_place_for : FnScope ["self", "asks", "many", "place", "came"] ["self", "asks", "many"] (defScope s_Pages_place_for) := ⟨rfl, rfl, rfl, by decide +kernel, rfl, by decide +kernel, by decide +kernel⟩
theorem ok_Pages_place_for (T : Env K mg) : DOk P w K mg base 4 ("Pages", some "place_for") ["self", "asks", "many"] (sp_Pages_place_for K) := by
  obtain ⟨fd, F⟩ := T.d_Pages_place_for
  refine ⟨fd, F.ok sc_Pages_place_for (fun vs H Q E h => ?_) (fun cdv A outer s H vs Q E hr h => ?_), F.bindsN fun _ _ _ _ _ _ us hl => match us, hl with | [_, _, _], _ => rfl, F.kp⟩
  · obtain ⟨a, b, m, m', A0, A', many, r, c, d, F, rfl, hP, hA, hO, hm, k⟩ := h
    rfl
  · obtain ⟨a, b, m, m', A0, A', many, r, c, d, F, rfl, hP, hA, hO, hm, k⟩ := h
    refine ⟨_, PSs.nox (pss_cons (ps_set (i := 3) sc_Pages_place_for.nd rfl (Or.inl rfl) (pmt (K := K) rfl (pv 0) T.c_Pages T.m_Pages_free_place (ok_Pages_free_place T) (hr.mono (by decide)) (pa_cons (pv 2) pa_nil)))
      (pss_cons (ps_if (pt_cmpR op_notN (pv 3) pe_non (nomark _))
        (pss_one (ps_ret (pv 3)))
        pss_nil)
      (pss_cons (ps_set (i := 4) sc_Pages_place_for.nd rfl (Or.inl rfl) (pmt (K := K) rfl (pv 0) T.c_Pages T.m_Pages_ask (ok_Pages_ask T) (hr.mono (by decide)) (pa_cons (pv 1) (pa_cons (pe_callB (call_max2 rfl) (by rfl) T.f_max (by decide +kernel) (pa_cons (kfld (K := K) rfl (pv 0) rfl) (pa_cons (pv 2) pa_nil))) pa_nil))))
      (pss_cons (ps_if (PW.pt (pw_and (pt_not (pt_val (pv 4))) (pw_and1 (pt_cmpR op_gt (kfld (K := K) rfl (pv 0) rfl) (pv 2) (nomark _)))))
        (pss_one (ps_expr (pmt (K := K) rfl (pv 0) T.c_Pages T.m_Pages_ask (ok_Pages_ask T) (hr.mono (by decide)) (pa_cons (pv 1) (pa_cons (pv 2) pa_nil)))))
        pss_nil)
      (pss_one (ps_ret (pmt (K := K) rfl (pv 0) T.c_Pages T.m_Pages_free_place (ok_Pages_free_place T) (hr.mono (by decide)) (pa_cons (pv 2) pa_nil)))))))), ?_⟩
    obtain ⟨hz, dx, mk, rn, rfl⟩ := id hP
    -- place = self.free_place(many)
    refine ⟨_, rfl, _, _, _, rfl, hO.rd a, lkn nx_Pages_free_place _, _, rfl, a, m, many, _, d + F, rfl, hP, hO, fun H1 h1 => ?_⟩
    unfold MPages.placeFor at hm
    cases hf : freePlace m.marks many with
    | some p =>
      rw [hf] at hm
      obtain ⟨rfl, hm'⟩ := Prod.mk.inj (Option.some.inj hm)
      obtain ⟨rfl, rfl⟩ := Prod.mk.inj hm'
      refine ⟨_, rfl, rfl, _, rfl, iteY rfl ?_⟩
      exact ⟨_, rfl, k _ _ _ hP hA h1⟩
    | none =>
      rw [hf] at hm
      obtain ⟨⟨A1, m1, came⟩, hm1, hm⟩ := Option.bind_eq_some_iff.mp hm
      refine ⟨_, rfl, rfl, _, rfl, iteN rfl ?_⟩
      -- came = self.ask(asks, max(self.chunk, many))
      refine ⟨_, rfl, _, _, _, rfl, h1.rd a, lkn nx_Pages_ask _, _, rfl, _, rfl, _, _, _, _, _, rfl, h1.rd a, T.c_Pages, T.n_Pages_chunk, lkz ix_Pages_chunk _, _, rfl, _, _, rfl, a, b, m, m1, A0, A1, _, came, _, d, F, rfl, hP, hA, h1, hm1, fun H2 c2 d2 hP2 hA2 h2 => ?_⟩
      have hm : (if came = false ∧ many < m1.chunk then (m1.ask A1 many).bind fun y => some (y.1, y.2.1, freePlace y.2.1.marks many) else some (A1, m1, freePlace m1.marks many)) = some (A', m', r) := hm
      -- return self.free_place(many)
      have fin : ∀ (A3 : MAsks) (m3 : MPages) (H3 : Hp) (c3 d3 : Cells) (cm : Bool) (v : Option V), PagesAt K a m3 c3 → AsksAt K b A3 d3 → Owns H3 (c3 + (d3 + F)) → (A3, m3, freePlace m3.marks many) = (A', m', r) →
          tRet (tMt (He.ga K "Pages") "free_place" (sp_Pages_free_place K) (tVar 0) (tCons (tVar 2) tNil)) { nx := fun _ H' => Q .non H', rt := Q } [some (.ref a), some (.ref b), some (.int many), v, some (.bl cm)] H3 := fun A3 m3 H3 c3 d3 cm v hP3 hA3 h3 e => by
        obtain ⟨rfl, e'⟩ := Prod.mk.inj e
        obtain ⟨rfl, rfl⟩ := Prod.mk.inj e'
        obtain ⟨hz3, dx3, mk3, rn3, rfl⟩ := id hP3
        refine ⟨_, rfl, _, _, _, rfl, h3.rd a, lkn nx_Pages_free_place _, _, rfl, a, m3, many, _, d3 + F, rfl, hP3, h3, fun H4 h4 => ?_⟩
        have g := k _ _ _ hP3 hA3 h4
        cases hq : freePlace m3.marks many with
        | none => rw [hq] at g; exact g
        | some p => rw [hq] at g; exact g
      obtain ⟨hz2, dx2, mk2, rn2, rfl⟩ := id hP2
      -- if not came and self.chunk > many
      refine ⟨_, rfl, _, rfl, ?_⟩
      cases came with
      | true =>
        rw [if_neg (by simp)] at hm
        exact iteN rfl (iteN rfl (fin A1 m1 _ _ _ _ _ hP2 hA2 h2 (Option.some.inj hm)))
      | false =>
        refine iteY rfl ?_
        refine ⟨_, rfl, _, _, _, _, _, rfl, h2.rd a, T.c_Pages, T.n_Pages_chunk, lkz ix_Pages_chunk _, _, rfl, _, _, rfl, rfl, _, rfl, ?_⟩
        by_cases q : many < m1.chunk
        · rw [if_pos ⟨rfl, q⟩] at hm
          obtain ⟨⟨A3, m3, cm3⟩, hm3, hm⟩ := Option.bind_eq_some_iff.mp hm
          refine iteYd q ?_
          refine ⟨_, rfl, _, _, _, rfl, h2.rd a, lkn nx_Pages_ask _, _, rfl, _, rfl, a, b, m1, m3, A1, A3, many, cm3, _, d2, F, rfl, hP2, hA2, h2, hm3, fun H3 c3 d3 hP3 hA3 h3 => ?_⟩
          exact fin A3 m3 _ _ _ _ _ hP3 hA3 h3 (Option.some.inj hm)
        · rw [if_neg fun z => q z.2] at hm
          exact iteNd q (fin A1 m1 _ _ _ _ _ hP2 hA2 h2 (Option.some.inj hm))
end
end GK
end
section
set_option Elab.async false
set_option linter.all false
set_option maxRecDepth 100000
set_option maxHeartbeats 4000000
namespace GK
open PySem PySem.Spec PyProof.Rows L2
noncomputable def tupsC : List Addr → List (Int × Int) → Cells
  | r :: rs, x :: xs => cel r (.tup [.int x.1, .int x.2]) + tupsC rs xs
  | _, _ => nil
theorem tupsC_snoc (r : Addr) (x : Int × Int) : ∀ (rs : List Addr) (xs : List (Int × Int)), rs.length = xs.length → tupsC (rs ++ [r]) (xs ++ [x]) = tupsC rs xs + cel r (.tup [.int x.1, .int x.2])
  | [], [], _ => by
    show cel r _ + nil = nil + cel r _
    rw [add_nil, nil_add]
  | a :: rs, y :: xs, h => by
    show cel a _ + tupsC (rs ++ [r]) (xs ++ [x]) = cel a _ + tupsC rs xs + cel r _
    rw [tupsC_snoc r x rs xs (by simpa using h), cells_assoc]
  | [], _ :: _, h => by simp at h
  | _ :: _, [], h => by simp at h
theorem tupsC_mid : ∀ (rs : List Addr) (xs : List (Int × Int)) (i : Nat), rs.length = xs.length → (h : i < rs.length) → ∃ x, xs[i]? = some x ∧ ∃ e, tupsC rs xs = cel (rs[i]'h) (.tup [.int x.1, .int x.2]) + e
  | r :: rs, x :: xs, 0, _, _ => ⟨x, rfl, _, rfl⟩
  | r :: rs, x :: xs, i + 1, hl, h => by
    obtain ⟨y, h1, e, h2⟩ := tupsC_mid rs xs i (by simpa using hl) (by simpa using h)
    refine ⟨y, h1, cel r (.tup [.int x.1, .int x.2]) + e, ?_⟩
    show cel r (.tup [.int x.1, .int x.2]) + tupsC rs xs = cel (rs[i]'(by simpa using h)) _ + _
    rw [h2]
    ac_rfl
  | _ :: _, [], _, hl, _ => by simp at hl
  | [], _, _, _, h => absurd h (by simp)
theorem ownStep_length (f : List (Int × Int)) (i x : Int) : (ownStep f i x).length ≤ f.length + 1 := by
  unfold ownStep
  split
  · omega
  · cases f.getLast? with
    | none => simp
    | some p =>
      show (if p.1 + p.2 = i then f.dropLast ++ [(p.1, p.2 + 1)] else f ++ [(i, 1)]).length ≤ _
      split <;> simp <;> omega
section
variable {P : Program} {w : World} {K : PySem.W.Frag} {mg : Str → Option Value} {base : Heap}
def sp_Pages_own_rows (K : PySem.W.Frag) : Sp := fun vs H Q _ => ∃ (a : Addr) (m : MPages) (c F : Cells), vs = [.ref a] ∧ PagesAt K a m c ∧ Owns H (c + F) ∧
  ∀ H' p ts, ts.length = (ownRows m.marks).length → Owns H' (cel p (.lst (ts.map V.ref)) + (tupsC ts (ownRows m.marks) + (c + F))) → Q (.ref p) H'
theorem sc_Pages_own_rows : FnScope ["self", "found", "page", "mark"] ["self"] (defScope s_Pages_own_rows) := ⟨rfl, rfl, rfl, by decide +kernel, rfl, by decide +kernel, by decide +kernel⟩
theorem ok_Pages_own_rows (T : Env K mg) : DOk P w K mg base 1 ("Pages", some "own_rows") ["self"] (sp_Pages_own_rows K) := by
  obtain ⟨fd, F⟩ := T.d_Pages_own_rows
  refine ⟨fd, F.ok sc_Pages_own_rows (fun vs H Q E h => ?_) (fun cdv A outer s H vs Q E hr h => ?_), F.bindsN fun _ _ _ _ _ _ us hl => match us, hl with | [_], _ => rfl, F.kp⟩
  · obtain ⟨a, m, c, F, rfl, ⟨hz, dx, mk, rn, rfl⟩, hO, k⟩ := h
    rfl
  · obtain ⟨a, m, c, F, rfl, ⟨hz, dx, mk, rn, rfl⟩, hO, k⟩ := h
    refine ⟨_, PSs.nox (pss_cons (ps_set (i := 1) sc_Pages_own_rows.nd rfl (Or.inl rfl) (pe_lst pa_nil))
      (pss_cons (ps_for PassesOwn.never rfl (pi_enum (by rfl) T.f_enumerate (pa_cons (kfld (K := K) rfl (pv 0) rfl) pa_nil)) (ktup (K := K) rfl rfl (pgs_cons (pg_name (i := 2) sc_Pages_own_rows.nd rfl (Or.inl rfl)) (pgs_cons (pg_name (i := 3) sc_Pages_own_rows.nd rfl (Or.inl rfl)) pgs_nil)))
        (pss_one (ps_if (pt_cmpR op_ne (pv 3) (pe_gi T.i_OUTSIDE) (nomark _))
        (pss_one (ps_if (PW.pt (pw_and (pt_cmpR op_gt (pe_callB call_len_seq (by rfl) T.f_len PySem.boot_len (pa_cons (pv 1) pa_nil)) pe_int (nomark _)) (pw_and1 (pt_cmpR op_eq (pe_callB (cr_sumT rfl) (by rfl) T.f_sum (by decide +kernel) (pa_cons (pe_ix (kix (K := K) rfl) (pv 1) (pe_un un_neg pe_int) (fun _ _ => rfl)) pa_nil)) (pv 2) (nomark _)))))
        (pss_one (ps_asg (pe_tup (pa_cons (pe_ix (kixT (K := K) rfl) (pe_ix (kix (K := K) rfl) (pv 1) (pe_un un_neg pe_int) (fun _ _ => rfl)) pe_int (fun _ _ => rfl)) (pa_cons (pe_op op_add (pe_ix (kixT (K := K) rfl) (pe_ix (kix (K := K) rfl) (pv 1) (pe_un un_neg pe_int) (fun _ _ => rfl)) pe_int (fun _ _ => rfl)) pe_int) pa_nil))) (pg_sub (pv 1) (pe_un un_neg pe_int) set_list)))
        (pss_one (ps_expr (pe_bm PySem.F.plainAttrs_list PySem.F.slot_list_append PySem.F.type_list_append mt_append (pv 1) (pa_cons (pe_tup (pa_cons (pv 2) (pa_cons pe_int pa_nil))) pa_nil))))))
        pss_nil)))
      (pss_one (ps_ret (pv 1))))), ?_⟩
    refine ⟨Nat.zero_le _, fun fd hfd => ?_⟩
    have h1 := hO.new hfd (o := .lst [])
    refine ⟨_, rfl, _, _, _, _, _, rfl, h1.rd a, T.c_Pages, T.n_Pages_marks, lkz ix_Pages_marks _, _, _, rfl, SqL.of (h1.rd mk), for_it (walk_enum (xs := m.marks.map V.int)) (fun i σ H' => ∃ (rows : List (Int × Int)) (ts : List Addr) (v1 v2 : Option V), σ = [some (.ref a), some (.ref fd), v1, v2] ∧
      Owns H' (cel fd (.lst (ts.map V.ref)) + (tupsC ts rows + (cel a (oPages K dx m mk rn) + (cel mk (.lst (m.marks.map V.int)) + cel rn (.dK (dk gI m.runs))) + F))) ∧ ts.length = rows.length ∧ rows.length ≤ i ∧ ownGo (m.marks.drop i) (i : Int) rows = ownRows m.marks)
      ⟨[], [], none, none, rfl, by show Owns _ (cel fd (.lst []) + (nil + _)); rw [nil_add]; exact h1, rfl, Nat.le_refl _, rfl⟩ (fun i σ H' _ h => ?_) ?_ ?_⟩
    · obtain ⟨_, _, _, _, _, h, _⟩ := h
      exact SqL.of (h.rd mk)
    · rintro i y σ H' H'' hi ⟨rows, ts, v1, v2, rfl, h, hl, hri, hf⟩ ⟨p, x1, x2, rfl, hp, rfl, e1, e2⟩
      cases e1
      obtain ⟨z, hz1, rfl⟩ := get_ints e2
      have h2 := h.new hp (o := .tup [.int ((i : Nat) : Int), .int z])
      obtain ⟨hi3, hi4⟩ := List.getElem?_eq_some_iff.mp hz1
      have hd : m.marks.drop i = z :: m.marks.drop (i + 1) := by rw [List.drop_eq_getElem_cons hi3, hi4]
      rw [hd] at hf
      have hf2 : ownGo (m.marks.drop (i + 1)) ((i + 1 : Nat) : Int) (ownStep rows (i : Int) z) = ownRows m.marks := by rw [Int.natCast_add]; exact hf
      have hln := ownStep_length rows (i : Int) z
      refine ⟨p, _, rfl, SqT.of (h2.rd p), rfl, _, _, rfl, _, _, rfl, rfl, ?_⟩
      refine ⟨_, rfl, rfl, _, rfl, ?_⟩
      rw [dec_int]
      by_cases q : z = 0
      · refine iteN (by rw [decide_eq_true q] <;> rfl) ?_
        have es : ownStep rows (i : Int) z = rows := if_pos q
        rw [es] at hf2
        exact ⟨rows, ts, _, _, rfl, h2.r, hl, by omega, hf2⟩
      · refine iteY (by rw [decide_eq_false q] <;> rfl) ?_
        -- found.append((page, 1))
        have app : ownStep rows (i : Int) z = rows ++ [((i : Int), 1)] → tDrop (tBM K "list" rAppend (tVar 1) (tCons (tTup (tCons (tVar 2) (tCons (tC (.int 1)) tNil))) tNil))
            { nx := fun σ H' => ∃ (rows : List (Int × Int)) (ts : List Addr) (v1 v2 : Option V), σ = [some (.ref a), some (.ref fd), v1, v2] ∧
              Owns H' (cel fd (.lst (ts.map V.ref)) + (tupsC ts rows + (cel a (oPages K dx m mk rn) + (cel mk (.lst (m.marks.map V.int)) + cel rn (.dK (dk gI m.runs))) + F))) ∧ ts.length = rows.length ∧ rows.length ≤ i + 1 ∧ ownGo (m.marks.drop (i + 1)) ((i + 1 : Nat) : Int) rows = ownRows m.marks, rt := Q }
            [some (.ref a), some (.ref fd), some (.int (i : Int)), some (.int z)] (upd H' p (.tup [.int ((i : Nat) : Int), .int z])) := fun es => by
          refine ⟨_, rfl, .inl ⟨rfl, _, SqL.of (h2.rd fd)⟩, _, rfl, (by show 2 ≤ sizeLine; decide), fun t ht => ?_⟩
          have h3 := h2.r.new ht (o := .tup [.int (i : Int), .int 1])
          refine ⟨fd, _, _, rfl, rfl, h3.rd fd, by rw [List.length_map, hl]; exact lt_lim (Nat.lt_of_lt_of_le (show rows.length < 1000001 by omega) (by decide)), ?_⟩
          have h4 := h3.up fd (.lst (ts.map V.ref ++ [.ref t]))
          refine ⟨rows ++ [((i : Int), 1)], ts ++ [t], _, _, rfl, ?_, by rw [List.length_append, List.length_append, hl] <;> rfl, by rw [List.length_append]; show rows.length + 1 ≤ _; omega, by rw [← es]; exact hf2⟩
          rw [tupsC_snoc t _ ts rows hl, List.map_append]
          exact h4.to (by
            show _ = cel fd (.lst (ts.map V.ref ++ [.ref t])) + (tupsC ts rows + cel t (.tup [.int (i : Int), .int 1]) + _)
            ac_rfl)
        -- len(found) > 0 and sum(found[-1]) == page
        refine ⟨_, rfl, _, _, rfl, .inl (SqL.of (h2.rd fd)), _, _, rfl, rfl, _, rfl, ?_⟩
        rw [List.length_map, hl]
        rcases List.eq_nil_or_concat rows with er | ⟨rows1, x, er⟩
        · refine iteN (by rw [er] <;> rfl) (iteF (app ?_))
          rw [er]
          exact if_neg q
        · rw [List.concat_eq_append] at er
          subst er
          obtain ⟨ts1, t, rfl⟩ : ∃ ts1 t, ts = ts1 ++ [t] := by
            rcases List.eq_nil_or_concat ts with e | ⟨ts1, t, e⟩
            · rw [e] at hl
              simp at hl
            · exact ⟨ts1, t, by rw [e, List.concat_eq_append]⟩
          have hl1 : ts1.length = rows1.length := by simpa using hl
          have es : ownStep (rows1 ++ [x]) (i : Int) z = if x.1 + x.2 = (i : Int) then rows1 ++ [(x.1, x.2 + 1)] else rows1 ++ [x] ++ [((i : Int), 1)] := by
            unfold ownStep
            rw [if_neg q, List.getLast?_concat]
            show (if x.1 + x.2 = (i : Int) then (rows1 ++ [x]).dropLast ++ [(x.1, x.2 + 1)] else _) = _
            rw [List.dropLast_concat]
          refine iteYd (by rw [List.length_append]; show (0 : Int) < ((rows1.length + 1 : Nat) : Int); omega) ?_
          have h5 := h2
          rw [tupsC_snoc t x ts1 rows1 hl1] at h5
          have gl : upd H' p (.tup [.int ((i : Nat) : Int), .int z]) fd = some (.lst (ts1.map V.ref ++ [V.ref t])) := by
            have g := h5.rd fd
            rw [List.map_append] at g
            exact g
          refine ⟨_, rfl, _, rfl, fd, _, _, V.ref t, rfl, rfl, SqL.of gl, atI_last _ _, t, [x.1, x.2], rfl, SqT.of (h5.rd t), _, rfl, rfl, _, rfl, ?_⟩
          rw [dec_int, show [x.1, x.2].sum = x.1 + x.2 by simp]
          refine ite2 (fun q2 => ?_) (fun q2 => ?_)
          · have q2 := of_decide_eq_true q2
            rw [if_pos q2] at es
            -- found[-1] = (found[-1][0], found[-1][1] + 1)
            refine ⟨_, rfl, _, rfl, fd, _, _, V.ref t, rfl, rfl, SqL.of gl, atI_last _ _, t, _, _, .int x.1, rfl, rfl, SqT.of (h5.rd t), rfl, ?_⟩
            refine ⟨_, rfl, _, rfl, fd, _, _, V.ref t, rfl, rfl, SqL.of gl, atI_last _ _, t, _, _, .int x.2, rfl, rfl, SqT.of (h5.rd t), rfl, _, _, rfl, rfl, (by show 2 ≤ sizeLine; decide), fun u hu => ?_⟩
            have h6 := h5.new hu (o := .tup [.int x.1, .int (x.2 + 1)])
            have gl2 := h6.rd fd
            refine ⟨_, rfl, _, rfl, fd, _, _, ts1.length, rfl, rfl, gl2, ?_, ?_⟩
            · rw [List.length_map, List.length_append]
              unfold ixN
              rw [if_neg (by decide), if_pos (by show -((ts1.length + 1 : Nat) : Int) ≤ _; omega)]
              congr 1
              show ((-1 : Int) + ((ts1.length + 1 : Nat) : Int)).toNat = _
              omega
            · have h7 := h6.up fd (.lst (((ts1 ++ [t]).map V.ref).set ts1.length (.ref u)))
              have e1 : ((ts1 ++ [t]).map V.ref).set ts1.length (V.ref u) = (ts1 ++ [u]).map V.ref := by
                rw [← List.map_set, List.set_append_right _ _ (Nat.le_refl _), Nat.sub_self]
                rfl
              rw [e1] at h7 ⊢
              refine ⟨rows1 ++ [(x.1, x.2 + 1)], ts1 ++ [u], _, _, rfl, ?_, by rw [List.length_append, List.length_append, hl1] <;> rfl, by rw [List.length_append] at hri ⊢; show rows1.length + 1 ≤ _; have : rows1.length + 1 ≤ i := hri; omega, by rw [← es]; exact hf2⟩
              rw [tupsC_snoc u _ ts1 rows1 hl1]
              exact h7.sub (e := cel t (.tup [.int x.1, .int x.2]) + cel p (.tup [.int ((i : Nat) : Int), .int z])) (by ac_rfl)
          · rw [if_neg fun w => q2 (decide_eq_true w)] at es
            exact app es
    · rintro σ H' ⟨rows, ts, v1, v2, rfl, h, hl, hri, hf⟩
      rw [List.length_map, List.drop_length] at hf
      have hf : rows = ownRows m.marks := hf
      subst hf
      exact ⟨_, rfl, k _ _ _ hl h⟩
def sp_Pages_give_back (K : PySem.W.Frag) : Sp := fun vs H Q _ => ∃ (a b : Addr) (m : MPages) (A A' : MAsks) (c d F : Cells), vs = [.ref a, .ref b] ∧ PagesAt K a m c ∧ AsksAt K b A d ∧ Owns H (c + (d + F)) ∧ m.giveBack A = some A' ∧
  ∀ H' d', AsksAt K b A' d' → Owns H' (c + (d' + F)) → Q .non H'
theorem sc_Pages_give_back : FnScope ["self", "asks", "first", "many"] ["self", "asks"] (defScope s_Pages_give_back) := ⟨rfl, rfl, rfl, by decide +kernel, rfl, by decide +kernel, by decide +kernel⟩
theorem ok_Pages_give_back (T : Env K mg) : DOk P w K mg base 3 ("Pages", some "give_back") ["self", "asks"] (sp_Pages_give_back K) := by
  obtain ⟨fd, F⟩ := T.d_Pages_give_back
  refine ⟨fd, F.ok sc_Pages_give_back (fun vs H Q E h => ?_) (fun cdv A outer s H vs Q E hr h => ?_), F.bindsN fun _ _ _ _ _ _ us hl => match us, hl with | [_, _], _ => rfl, F.kp⟩
  · obtain ⟨a, b, m, A0, A', c, d, F, rfl, hP, hA, hO, hm, k⟩ := h
    rfl
  · obtain ⟨a, b, m, A0, A', c, d, F, rfl, hP, hA, hO, hm, k⟩ := h
    refine ⟨_, PSs.nox (pss_one (ps_for PassesOwn.never rfl (kpi (K := K) rfl (pmt0 (K := K) rfl (pv 0) T.c_Pages T.m_Pages_own_rows (ok_Pages_own_rows T) (hr.mono (by decide)))) (ktup (K := K) rfl rfl (pgs_cons (pg_name (i := 2) sc_Pages_give_back.nd rfl (Or.inl rfl)) (pgs_cons (pg_name (i := 3) sc_Pages_give_back.nd rfl (Or.inl rfl)) pgs_nil)))
        (pss_one (ps_expr (pmt (K := K) rfl (pv 1) T.c_Asks T.m_Asks_less (ok_Asks_less T) (hr.mono (by decide)) (pa_cons (pv 2) (pa_cons (pv 3) pa_nil))))))), ?_⟩
    obtain ⟨hz, dx, mk, rn, rfl⟩ := id hP
    refine ⟨_, rfl, _, _, _, rfl, hO.rd a, lkn nx_Pages_own_rows _, a, m, _, d + F, rfl, hP, hO, fun H1 p ts hts h1 => ?_⟩
    refine ⟨p, rfl, ⟨_, SqL.of h1.get⟩, for_list (K := K) (a := p) (xs := ts.map V.ref) (fun i σ H' => ∃ (A1 : MAsks) (d1 : Cells) (v1 v2 : Option V), σ = [some (.ref a), some (.ref b), v1, v2] ∧ AsksAt K b A1 d1 ∧
      Owns H' (cel p (.lst (ts.map V.ref)) + (tupsC ts (ownRows m.marks) + (cel a (oPages K dx m mk rn) + (cel mk (.lst (m.marks.map V.int)) + cel rn (.dK (dk gI m.runs))) + (d1 + F)))) ∧ backL A1 ((ownRows m.marks).drop i) = some A')
      ⟨A0, d, none, none, rfl, hA, h1, hm⟩ (fun i σ H' _ h => ?_) ?_ ?_⟩
    · obtain ⟨_, _, _, _, _, _, h, _⟩ := h
      exact SqL.of h.get
    · rintro i y σ H' hi ⟨A1, d1, v1, v2, rfl, hA1, h, hb⟩
      obtain ⟨hir, rfl⟩ : ∃ h : i < ts.length, y = V.ref ts[i] := by
        rw [List.getElem?_map] at hi
        obtain ⟨r, h1, h2⟩ := Option.map_eq_some_iff.mp hi
        obtain ⟨h3, h4⟩ := List.getElem?_eq_some_iff.mp h1
        exact ⟨h3, by rw [h4]; exact h2.symm⟩
      obtain ⟨x, hx, e, he⟩ := tupsC_mid ts (ownRows m.marks) i hts hir
      have h2 := h
      rw [he] at h2
      obtain ⟨h3, h4⟩ := List.getElem?_eq_some_iff.mp hx
      rw [List.drop_eq_getElem_cons h3, h4] at hb
      obtain ⟨A2, hA2, hb⟩ := Option.bind_eq_some_iff.mp hb
      refine ⟨ts[i], _, rfl, SqT.of (h2.rd ts[i]), rfl, _, _, rfl, _, _, rfl, rfl, ?_⟩
      obtain ⟨dxa, al, ql, rs, hrs, rfl⟩ := id hA1
      refine ⟨_, rfl, _, _, _, rfl, h2.rd b, lkn nx_Asks_less _, _, rfl, _, rfl, b, A1, A2, x.1, x.2, _, _, rfl, hA1, h.to (by
        show _ = _ + (cel p (.lst (ts.map V.ref)) + (tupsC ts (ownRows m.marks) + (cel a (oPages K dx m mk rn) + (cel mk (.lst (m.marks.map V.int)) + cel rn (.dK (dk gI m.runs))) + F)))
        ac_rfl), hA2, fun H3 d3 hA3 h3 => ?_⟩
      exact ⟨A2, d3, _, _, rfl, hA3, h3.to (by ac_rfl), hb⟩
    · rintro σ H' ⟨A1, d1, v1, v2, rfl, hA1, h, hb⟩
      rw [List.length_map, hts, List.drop_length] at hb
      cases hb
      exact k _ _ hA1 h.r.r
def sp_Pages_take (K : PySem.W.Frag) : Sp := fun vs H Q _ => ∃ (a b : Addr) (m m' : MPages) (A A' : MAsks) (many : Int) (r : Option Int) (c d F : Cells), vs = [.ref a, .ref b, .int many] ∧ PagesAt K a m c ∧ AsksAt K b A d ∧ Owns H (c + (d + F)) ∧ m.take A many = some (A', m', r) ∧
  ∀ H' c' d', PagesAt K a m' c' → AsksAt K b A' d' → Owns H' (c' + (d' + F)) → Q (optV r) H'
theorem sc_Pages_take : FnScope ["self", "asks", "many", "place"] ["self", "asks", "many"] (defScope s_Pages_take) := ⟨rfl, rfl, rfl, by decide +kernel, rfl, by decide +kernel, by decide +kernel⟩
theorem ok_Pages_take (T : Env K mg) : DOk P w K mg base 5 ("Pages", some "take") ["self", "asks", "many"] (sp_Pages_take K) := by
  obtain ⟨fd, F⟩ := T.d_Pages_take
  refine ⟨fd, F.ok sc_Pages_take (fun vs H Q E h => ?_) (fun cdv A outer s H vs Q E hr h => ?_), F.bindsN fun _ _ _ _ _ _ us hl => match us, hl with | [_, _, _], _ => rfl, F.kp⟩
  · obtain ⟨a, b, m, m', A0, A', many, r, c, d, F, rfl, hP, hA, hO, hm, k⟩ := h
    rfl
  · obtain ⟨a, b, m, m', A0, A', many, r, c, d, F, rfl, hP, hA, hO, hm, k⟩ := h
    refine ⟨_, PSs.nox (pss_cons (ps_set (i := 3) sc_Pages_take.nd rfl (Or.inl rfl) (pmt (K := K) rfl (pv 0) T.c_Pages T.m_Pages_place_for (ok_Pages_place_for T) (hr.mono (by decide)) (pa_cons (pv 1) (pa_cons (pv 2) pa_nil))))
      (pss_cons (ps_if (pt_cmpR op_isN (pv 3) pe_non (nomark _))
        (pss_one (ps_ret pe_non))
        pss_nil)
      (pss_cons (ps_expr (pmt (K := K) rfl (pv 0) T.c_Pages T.m_Pages_set_marks (ok_Pages_set_marks T) (hr.mono (by decide)) (pa_cons (pv 3) (pa_cons (pv 2) (pa_cons (pe_gi T.i_TAKEN) pa_nil)))))
      (pss_cons (ps_dput (hu_of hr) (kfld (K := K) rfl (pv 0) rfl) (pv 3) (pv 2) rfl)
      (pss_one (ps_ret (pv 3))))))), ?_⟩
    obtain ⟨hz, dx, mk, rn, rfl⟩ := id hP
    obtain ⟨⟨A1, m1, p⟩, hm1, hm⟩ := Option.bind_eq_some_iff.mp hm
    refine ⟨_, rfl, _, _, _, rfl, hO.rd a, lkn nx_Pages_place_for _, _, rfl, _, rfl, a, b, m, m1, A0, A1, many, p, _, d, F, rfl, hP, hA, hO, hm1, fun H1 c1 d1 hP1 hA1 h1 => ?_⟩
    cases p with
    | none =>
      have e : some (A1, m1, (none : Option Int)) = some (A', m', r) := hm
      cases e
      exact ⟨_, rfl, rfl, _, rfl, iteY rfl (k _ _ _ hP1 hA1 h1)⟩
    | some p =>
      obtain ⟨m2, hm2, hm⟩ := Option.bind_eq_some_iff.mp hm
      refine ⟨_, rfl, rfl, _, rfl, iteN rfl ?_⟩
      obtain ⟨hz1, dx1, mk1, rn1, rfl⟩ := id hP1
      refine ⟨_, rfl, _, _, _, rfl, h1.rd a, lkn nx_Pages_set_marks _, _, rfl, _, rfl, a, m1, m2, p, many, 2, _, d1 + F, rfl, hP1, h1, hm2, fun H2 c2 hP2 h2 => ?_⟩
      obtain ⟨hz2, dx2, mk2, rn2, rfl⟩ := id hP2
      split at hm
      case isFalse => cases hm
      rename_i hlt
      have e : some (A1, { m2 with runs := put m2.runs p many }, some p) = some (A', m', r) := hm
      cases e
      refine ⟨_, rfl, _, rfl, _, _, _, _, _, rfl, h2.rd a, T.c_Pages, T.n_Pages_runs, lkz ix_Pages_runs _, _, rfl, rn2, _, rfl, dput (g := gI) (v := many) (h2.rd rn2) hlt, ?_⟩
      have h3 := h2.up rn2 (.dK (dk gI (put m2.runs p many)))
      refine ⟨_, rfl, k _ _ _ ⟨hz2, dx2, mk2, rn2, rfl⟩ hA1 (h3.to ?_)⟩
      show _ = cel a (oPages K dx2 m2 mk2 rn2) + (cel mk2 (.lst (m2.marks.map V.int)) + cel rn2 (.dK (dk gI (put m2.runs p many)))) + _
      ac_rfl
def sp_Pages_give (K : PySem.W.Frag) : Sp := fun vs H Q _ => ∃ (a b : Addr) (m m' : MPages) (A A' : MAsks) (first : Int) (c d F : Cells), vs = [.ref a, .ref b, .int first] ∧ PagesAt K a m c ∧ AsksAt K b A d ∧ Owns H (c + (d + F)) ∧ m.give A first = some (A', m') ∧
  ∀ H' c' d', PagesAt K a m' c' → AsksAt K b A' d' → Owns H' (c' + (d' + F)) → Q .non H'
theorem sc_Pages_give : FnScope ["self", "asks", "first"] ["self", "asks", "first"] (defScope s_Pages_give) := ⟨rfl, rfl, rfl, by decide +kernel, rfl, by decide +kernel, by decide +kernel⟩
theorem ok_Pages_give (T : Env K mg) : DOk P w K mg base 4 ("Pages", some "give") ["self", "asks", "first"] (sp_Pages_give K) := by
  obtain ⟨fd, F⟩ := T.d_Pages_give
  refine ⟨fd, F.ok sc_Pages_give (fun vs H Q E h => ?_) (fun cdv A outer s H vs Q E hr h => ?_), F.bindsN fun _ _ _ _ _ _ us hl => match us, hl with | [_, _, _], _ => rfl, F.kp⟩
  · obtain ⟨a, b, m, m', A0, A', first, c, d, F, rfl, ⟨hz, dx, mk, rn, rfl⟩, hA, hO, hm, k⟩ := h
    rfl
  · obtain ⟨a, b, m, m', A0, A', first, c, d, F, rfl, ⟨hz, dx, mk, rn, rfl⟩, hA, hO, hm, k⟩ := h
    refine ⟨_, PSs.nox (pss_cons (ps_expr (pmt (K := K) rfl (pv 0) T.c_Pages T.m_Pages_set_marks (ok_Pages_set_marks T) (hr.mono (by decide)) (pa_cons (pv 2) (pa_cons (pe_dpop1 (kfld (K := K) rfl (pv 0) rfl) (pv 2) ⟨rfl, rfl, rfl, rfl⟩) (pa_cons (pe_gi T.i_FREE) pa_nil)))))
      (pss_one (ps_expr (pmt (K := K) rfl (pv 0) T.c_Pages T.m_Pages_trim (ok_Pages_trim T) (hr.mono (by decide)) (pa_cons (pv 1) (pa_cons (kfld (K := K) rfl (pv 0) rfl) pa_nil)))))), ?_⟩
    obtain ⟨many, hl, hm⟩ := Option.bind_eq_some_iff.mp hm
    obtain ⟨m1, hm1, hm⟩ := Option.bind_eq_some_iff.mp hm
    refine ⟨_, rfl, _, _, _, rfl, hO.rd a, lkn nx_Pages_set_marks _, _, rfl, _, rfl, _, _, _, _, _, rfl, hO.rd a, T.c_Pages, T.n_Pages_runs, lkz ix_Pages_runs _, rn, rfl, .inl ⟨_, .inl (hO.rd rn)⟩, _, rfl, _, Sum.inl first, V.int many, hO.rd rn, rfl, by rw [valV_dk, hl] <;> rfl, ?_⟩
    rw [dropK_dk]
    have h1 := hO.up rn (.dK (dk gI (del m.runs first)))
    refine ⟨a, { m with runs := del m.runs first }, m1, first, many, 1, cel a (oPages K dx m mk rn) + (cel mk (.lst (m.marks.map V.int)) + cel rn (.dK (dk gI (del m.runs first)))), d + F, rfl, ⟨hz, dx, mk, rn, rfl⟩, h1.to (by ac_rfl), hm1, fun H2 c2 hP2 h2 => ?_⟩
    obtain ⟨hz2, dx2, mk2, rn2, rfl⟩ := id hP2
    refine ⟨_, rfl, _, _, _, rfl, h2.rd a, lkn nx_Pages_trim _, _, rfl, _, rfl, _, _, _, _, _, rfl, h2.rd a, T.c_Pages, T.n_Pages_spare, lkz ix_Pages_spare _, a, b, m1, m', A0, A', m1.spare, _, d, F, rfl, hP2, hA, h2, hm, fun H3 c3 d3 hP3 hA3 h3 => ?_⟩
    exact k _ _ _ hP3 hA3 h3
def sp_Pages_sums (K : PySem.W.Frag) : Sp := fun vs H Q _ => ∃ (a : Addr) (m : MPages) (c F : Cells), vs = [.ref a] ∧ PagesAt K a m c ∧ Owns H (c + F) ∧
  ∀ H' p, Owns H' (cel p (.lst (m.sums.map V.int)) + (c + F)) → Q (.ref p) H'
theorem sc_Pages_sums : FnScope ["self", "free", "taken"] ["self"] (defScope s_Pages_sums) := ⟨rfl, rfl, rfl, by decide +kernel, rfl, by decide +kernel, by decide +kernel⟩
theorem ok_Pages_sums (T : Env K mg) : DOk P w K mg base 2 ("Pages", some "sums") ["self"] (sp_Pages_sums K) := by
  obtain ⟨fd, F⟩ := T.d_Pages_sums
  refine ⟨fd, F.ok sc_Pages_sums (fun vs H Q E h => ?_) (fun cdv A outer s H vs Q E hr h => ?_), F.bindsN fun _ _ _ _ _ _ us hl => match us, hl with | [_], _ => rfl, F.kp⟩
  · obtain ⟨a, m, c, F, rfl, hP, hO, k⟩ := h
    rfl
  · obtain ⟨a, m, c, F, rfl, hP, hO, k⟩ := h
    refine ⟨_, PSs.nox (pss_cons (ps_set (i := 1) sc_Pages_sums.nd rfl (Or.inl rfl) (pmt (K := K) rfl (pv 0) T.c_Pages T.m_Pages_count_of (ok_Pages_count_of T) (hr.mono (by decide)) (pa_cons (pe_gi T.i_FREE) pa_nil)))
      (pss_cons (ps_set (i := 2) sc_Pages_sums.nd rfl (Or.inl rfl) (pmt (K := K) rfl (pv 0) T.c_Pages T.m_Pages_count_of (ok_Pages_count_of T) (hr.mono (by decide)) (pa_cons (pe_gi T.i_TAKEN) pa_nil)))
      (pss_one (ps_ret (pe_lst (pa_cons (pe_op op_add (pv 1) (pv 2)) (pa_cons (pv 1) (pa_cons (pv 2) (pa_cons (kfld (K := K) rfl (pv 0) rfl) (pa_cons (kfld (K := K) rfl (pv 0) rfl) (pa_cons (kfld (K := K) rfl (pv 0) rfl) (pa_cons (kfld (K := K) rfl (pv 0) rfl) (pa_cons (kfld (K := K) rfl (pv 0) rfl) pa_nil))))))))))))), ?_⟩
    obtain ⟨hz, dx, mk, rn, rfl⟩ := id hP
    refine ⟨_, rfl, _, _, _, rfl, hO.rd a, lkn nx_Pages_count_of _, a, m, 1, _, F, rfl, hP, hO, fun H1 h1 => ?_⟩
    refine ⟨_, rfl, _, _, _, rfl, h1.rd a, lkn nx_Pages_count_of _, a, m, 2, _, F, rfl, hP, h1, fun H2 h2 => ?_⟩
    refine ⟨_, rfl, _, rfl, _, _, rfl, rfl, _, rfl, _, rfl, _, rfl, _, _, _, _, _, rfl, h2.rd a, T.c_Pages, T.n_Pages_asked, lkz ix_Pages_asked _, _, rfl, _, _, _, _, _, rfl, h2.rd a, T.c_Pages, T.n_Pages_refused, lkz ix_Pages_refused _, _, rfl, _, _, _, _, _, rfl, h2.rd a, T.c_Pages, T.n_Pages_came, lkz ix_Pages_came _, _, rfl, _, _, _, _, _, rfl, h2.rd a, T.c_Pages, T.n_Pages_went, lkz ix_Pages_went _, _, rfl, _, _, _, _, _, rfl, h2.rd a, T.c_Pages, T.n_Pages_most, lkz ix_Pages_most _, (by show 8 ≤ sizeLine; decide), fun p hp => ?_⟩
    exact k _ _ (h2.new hp)
end
end GK
end
section
set_option Elab.async false
set_option linter.all false
set_option maxRecDepth 100000
set_option maxHeartbeats 4000000
namespace GK
open PySem PySem.Spec PyProof.Rows L2
section
variable {P : Program} {w : World} {K : PySem.W.Frag} {mg : Str → Option Value} {base : Heap}
/-! ### sizes -/
def smallPre (n : Nat) : List Int := ((List.range 8).map fun (k : Nat) => 16 * ((k : Int) + 1)) ++ (List.range n).flatMap fun (d : Nat) => (List.range 4).map fun (k : Nat) => 128 * 2 ^ d + (128 * 2 ^ d : Int).fdiv 4 * (1 + (k : Int))
theorem smallPre_all : smallPre 8 = smallSizes := rfl
theorem smallPre_more (n : Nat) : smallPre (n + 1) = smallPre n ++ (List.range 4).map fun (k : Nat) => 128 * 2 ^ n + (128 * 2 ^ n : Int).fdiv 4 * (1 + (k : Int)) := by
  unfold smallPre
  rw [show List.range (n + 1) = List.range n ++ [n] from List.range_succ, List.flatMap_append, ← List.append_assoc]
  simp
theorem smallPre_len (n : Nat) : (smallPre n).length = 8 + 4 * n := by
  induction n with
  | zero => rfl
  | succ n ih =>
    rw [smallPre_more, List.length_append, ih, List.length_map, List.length_range]
    omega
def sp_small_sizes (K : PySem.W.Frag) : Sp := fun vs H Q _ => ∃ (F : Cells), vs = [] ∧ Owns H F ∧ ∀ H' p, Owns H' (cel p (.lst (smallSizes.map V.int)) + F) → Q (.ref p) H'
theorem sc_small_sizes : FnScope ["found", "doubling", "low", "k"] [] (defScope s_small_sizes) := ⟨rfl, rfl, rfl, by decide +kernel, rfl, by decide +kernel, by decide +kernel⟩
theorem ok_small_sizes (T : Env K mg) : DOk P w K mg base 1 ("small_sizes", none) [] (sp_small_sizes K) := by
  obtain ⟨fd, F⟩ := T.d_small_sizes
  refine ⟨fd, F.ok sc_small_sizes (fun vs H Q E h => ?_) (fun cdv A outer s H vs Q E hr h => ?_), F.bindsN fun _ _ _ _ _ _ us hl => match us, hl with | [], _ => rfl, F.kp⟩
  · obtain ⟨F, rfl, hO, k⟩ := h
    rfl
  · obtain ⟨F, rfl, hO, k⟩ := h
    refine ⟨_, PSs.nox (pss_cons (ps_setLc (i := 0) (own := [("k", 3)]) (g := gName 3) rfl sc_small_sizes.nd rfl rfl (sw_true rfl rfl rfl (by decide +kernel)) (pi_range1 (by rfl) T.f_range (pa_cons (pe_gi T.i_FIRST_STEPS) pa_nil)) (blkOk_by (own := [("k", 3)]) (N := ["found", "doubling", "low", "k"]) (sc := defScope s_small_sizes) (by decide +kernel)) (fun _ _ _ _ _ => pg_name (i := 3) sc_small_sizes.nd rfl (Or.inl rfl)) (fun _ _ _ _ _ => pts_nil) (fun _ _ _ _ _ => (pe_op op_mul (pe_gi T.i_STEP) (pe_op op_add (pv 3) pe_int))))
      (pss_cons (ps_for PassesOwn.never rfl (pi_range1 (by rfl) T.f_range (pa_cons (pe_gi T.i_DOUBLINGS) pa_nil)) (pg_name (i := 1) sc_small_sizes.nd rfl (Or.inl rfl))
        (pss_cons (ps_set (i := 2) sc_small_sizes.nd rfl (Or.inr rfl) (pe_op op_shl (pe_op op_mul (pe_gi T.i_STEP) (pe_gi T.i_FIRST_STEPS)) (pv 1)))
      (pss_one (ps_expr (pe_bm PySem.F.plainAttrs_list PySem.F.slot_list_extend PySem.F.type_list_extend mt_extend (pv 0) (pa_cons (pe_lc (own := [("k", 3)]) (g := gName 3) rfl sc_small_sizes.nd (pi_range2 (by rfl) T.f_range (pa_cons pe_int (pa_cons pe_int pa_nil))) (blkOk_by (own := [("k", 3)]) (N := ["found", "doubling", "low", "k"]) (sc := defScope s_small_sizes) (by decide +kernel)) (fun _ _ _ _ _ => pg_name (i := 3) sc_small_sizes.nd rfl (Or.inl rfl)) (fun _ _ _ _ _ => pts_nil) (fun _ _ _ _ _ => (pe_op op_add (pv 2) (pe_op op_mul (pe_op op_fdivN (pv 2) pe_int) (pv 3))))) pa_nil))))))
      (pss_one (ps_ret (pv 0))))), ?_⟩
    refine ⟨_, rfl, by decide, by decide, fun fd hfd => lcA (List.range 8) (fun i => .int (0 + (i : Int))) walk_range (List.length_range) (fun i H x H' hi y => ⟨y.1, i, List.getElem?_range hi, y.2⟩) hO (fun _ _ => trivial) (fun _ => true) (fun i => V.int (16 * ((i : Int) + 1))) hfd (by decide) (fun _ => rfl) (fun _ _ _ _ Q q => q) (fun i _ _ H h Q q => ?_) (fun H h => ?_)⟩
    · exact ⟨_, rfl, _, _, rfl, rfl, _, _, rfl, rfl, .inl ⟨by decide, by decide⟩, by rw [Int.zero_add]; exact q⟩
    have h0 : Owns H (cel fd (.lst ((smallPre 0).map V.int)) + F) := by
      have e : List.map (fun (i : Nat) => V.int (16 * ((i : Int) + 1))) (List.filter (fun _ => true) (List.range 8)) = (smallPre 0).map V.int := rfl
      rw [e] at h
      exact h
    refine ⟨_, rfl, by decide, by decide, for_range (lo := 0) (n := 8) (fun i σ H' => ∃ v1 v2 v3 : Option V, σ = [some (.ref fd), v1, v2, v3] ∧ Owns H' (cel fd (.lst ((smallPre i).map V.int)) + F)) ⟨none, none, none, rfl, h0⟩ ?_ ?_⟩
    · rintro i σ H' hi ⟨v1, v2, v3, rfl, h1⟩
      refine ⟨_, _, rfl, rfl, .inl ⟨by decide, by decide⟩, _, rfl, 128, (i : Int), rfl, by rw [Int.zero_add], ⟨by omega, by omega, by decide⟩, ?_⟩
      refine ⟨_, rfl, .inl ⟨rfl, _, SqL.of h1.get⟩, ?_⟩
      refine ⟨_, _, rfl, ⟨by decide, by decide, by decide, by decide⟩, fun q hq => lcA (List.range 4) (fun j => .int (1 + (j : Int))) walk_range (List.length_range) (fun i H x H' hi y => ⟨y.1, i, List.getElem?_range hi, y.2⟩) h1 (fun _ _ => trivial) (fun _ => true) (fun j => V.int (128 * 2 ^ i + (128 * 2 ^ i : Int).fdiv 4 * (1 + (j : Int)))) hq (by decide) (fun _ => rfl) (fun _ _ _ _ Q q => q) (fun j hj _ H h Q q => ?_) (fun H2 h2 => ?_)⟩
      · have hj := List.mem_range.mp hj
        exact ⟨_, rfl, _, rfl, _, _, rfl, rfl, ⟨by decide, by decide⟩, _, rfl, _, _, rfl, rfl, .inr ⟨by omega, by omega⟩, _, _, rfl, rfl, q⟩
      · rw [List.filter_eq_self.mpr (fun _ _ => rfl)] at h2
        refine ⟨fd, q, _, _, rfl, rfl, h2.rd fd, h2.get, ?_, ?_⟩
        · rw [List.length_map, List.length_map, smallPre_len]
          exact le_lim (Nat.le_trans (show 8 + 4 * i + 4 ≤ 100 by omega) (by decide))
        · refine ⟨_, _, _, rfl, ?_⟩
          rw [smallPre_more, List.map_append, List.map_map]
          exact (h2.up fd _).sub (e := cel q _) (by
            rw [cells_assoc]
            congr 1
            exact cells_comm _ _)
    · rintro σ H' ⟨v1, v2, v3, rfl, h1⟩
      exact ⟨_, rfl, k _ _ h1⟩
def optI : Option Int → V
  | none => .non
  | some p => .int p
def sp_size_for (K : PySem.W.Frag) : Sp := fun vs H Q _ => ∃ (size : Int) (e : Nat) (F : Cells), vs = [.int size, .int (2 ^ e)] ∧ Owns H F ∧ ∀ H', Owns H' F → Q (optI (sizeFor size (2 ^ e))) H'
theorem sc_size_for : FnScope ["size", "multiple", "small"] ["size", "multiple"] (defScope s_size_for) := ⟨rfl, rfl, rfl, by decide +kernel, rfl, by decide +kernel, by decide +kernel⟩
theorem ok_size_for (T : Env K mg) : DOk P w K mg base 2 ("size_for", none) ["size", "multiple"] (sp_size_for K) := by
  obtain ⟨fd, F⟩ := T.d_size_for
  refine ⟨fd, F.ok sc_size_for (fun vs H Q E h => ?_) (fun cdv A outer s H vs Q E hr h => ?_), F.bindsN fun _ _ _ _ _ _ us hl => match us, hl with | [_, _], _ => rfl, F.kp⟩
  · obtain ⟨size, e, F, rfl, hO, k⟩ := h
    rfl
  · obtain ⟨size, e, F, rfl, hO, k⟩ := h
    refine ⟨_, PSs.nox (pss_cons (ps_for PassesOwn.never rfl (kpi (K := K) rfl (pcl0 (K := K) rfl T.g_small_sizes (ok_small_sizes T) (hr.mono (by decide)))) (pg_name (i := 2) sc_size_for.nd rfl (Or.inl rfl))
        (pss_one (ps_if (PW.pt (pw_and (pt_cmpR op_ge (pv 2) (pv 0) (nomark _)) (pw_and1 (pt_cmpR op_eq (pe_op op_andM (pv 2) (pe_op op_sub (pv 1) pe_int)) pe_int (nomark _)))))
        (pss_one (ps_ret (pv 2)))
        pss_nil)))
      (pss_one (ps_ret pe_non))), ?_⟩
    refine ⟨F, rfl, hO, fun H1 p h1 => ?_⟩
    refine ⟨p, rfl, ⟨_, SqL.of h1.get⟩, for_list (K := K) (a := p) (xs := smallSizes.map V.int) (fun i σ H' => ∃ v : Option V, σ = [some (.int size), some (.int (2 ^ e)), v] ∧ Owns H' (cel p (.lst (smallSizes.map V.int)) + F) ∧
      (smallSizes.drop i).find? (fun z => decide (size ≤ z) && decide (z % 2 ^ e = 0)) = sizeFor size (2 ^ e)) ⟨none, rfl, h1, rfl⟩ (fun i σ H' _ h => ?_) ?_ ?_⟩
    · obtain ⟨_, _, h, _⟩ := h
      exact SqL.of h.get
    · rintro i y σ H' hi ⟨v, rfl, h, hf⟩
      obtain ⟨z, hz, rfl⟩ := get_ints hi
      obtain ⟨h3, h4⟩ := List.getElem?_eq_some_iff.mp hz
      rw [List.drop_eq_getElem_cons h3, h4, List.find?_cons] at hf
      refine ⟨_, rfl, _, rfl, _, _, rfl, rfl, _, rfl, ?_⟩
      by_cases q1 : size ≤ z
      · refine iteYd q1 ⟨_, rfl, _, rfl, _, _, rfl, rfl, z, e, rfl, rfl, rfl, _, rfl, ?_⟩
        rw [dec_int]
        rw [decide_eq_true q1, Bool.true_and] at hf
        by_cases q2 : z % 2 ^ e = 0
        · rw [decide_eq_true q2] at hf
          refine iteYd q2 ⟨_, rfl, ?_⟩
          have g := k _ h.r
          rw [← hf] at g
          exact g
        · rw [decide_eq_false q2] at hf
          exact iteNd q2 ⟨_, rfl, h, hf⟩
      · rw [decide_eq_false q1, Bool.false_and] at hf
        exact iteNd q1 (iteF ⟨_, rfl, h, hf⟩)
    · rintro σ H' ⟨v, rfl, h, hf⟩
      rw [List.length_map, List.drop_length] at hf
      have g := k _ h.r
      rw [← hf] at g
      exact g
def sp_rest_of (K : PySem.W.Frag) : Sp := fun vs H Q _ => ∃ (pages small : Int), vs = [.int pages, .int small] ∧ 0 < small ∧ small ≤ 1000000 ∧ Q (.int (restOf pages small)) H
theorem sc_rest_of : FnScope ["pages", "small"] ["pages", "small"] (defScope s_rest_of) := ⟨rfl, rfl, rfl, by decide +kernel, rfl, by decide +kernel, by decide +kernel⟩
theorem ok_rest_of (T : Env K mg) : DOk P w K mg base 1 ("rest_of", none) ["pages", "small"] (sp_rest_of K) := by
  obtain ⟨fd, F⟩ := T.d_rest_of
  refine ⟨fd, F.ok sc_rest_of (fun vs H Q E h => ?_) (fun cdv A outer s H vs Q E hr h => ?_), F.bindsN fun _ _ _ _ _ _ us hl => match us, hl with | [_, _], _ => rfl, F.kp⟩
  · obtain ⟨pages, small, rfl, h0, h1, k⟩ := h
    rfl
  · obtain ⟨pages, small, rfl, h0, h1, k⟩ := h
    refine ⟨_, PSs.nox (pss_one (ps_ret (pe_op op_sub (pe_op op_mul (pv 0) (pe_gi T.i_PAGE)) (pe_op op_mul (pe_op op_fdivN (pe_op op_mul (pv 0) (pe_gi T.i_PAGE)) (pv 1)) (pv 1))))), ?_⟩
    refine ⟨_, rfl, _, _, rfl, rfl, .inr ⟨by decide, by decide⟩, _, rfl, _, _, rfl, rfl, .inr ⟨by decide, by decide⟩, _, rfl, _, _, rfl, rfl, ⟨by omega, by omega⟩, _, rfl, _, _, rfl, rfl, .inr ⟨by omega, by omega⟩, _, _, rfl, rfl, k⟩
def sp_run_pages (K : PySem.W.Frag) : Sp := fun vs H Q _ => ∃ (small p : Int), vs = [.int small] ∧ runPages small = some p ∧ Q (.int p) H
theorem sc_run_pages : FnScope ["small", "pages"] ["small"] (defScope s_run_pages) := ⟨rfl, rfl, rfl, by decide +kernel, rfl, by decide +kernel, by decide +kernel⟩
theorem ok_run_pages (T : Env K mg) : DOk P w K mg base 2 ("run_pages", none) ["small"] (sp_run_pages K) := by
  obtain ⟨fd, F⟩ := T.d_run_pages
  refine ⟨fd, F.ok sc_run_pages (fun vs H Q E h => ?_) (fun cdv A outer s H vs Q E hr h => ?_), F.bindsN fun _ _ _ _ _ _ us hl => match us, hl with | [_], _ => rfl, F.kp⟩
  · obtain ⟨small, p, rfl, hp, k⟩ := h
    rfl
  · obtain ⟨small, p, rfl, hp, k⟩ := h
    refine ⟨_, PSs.nox (pss_cons (ps_set (i := 1) sc_run_pages.nd rfl (Or.inl rfl) pe_int)
      (pss_cons (ps_while PassesOwn.never (pt_cmpR op_gt (pe_op op_mul (pe_gi T.i_EIGHTH) (pcl (K := K) rfl T.g_rest_of (ok_rest_of T) (hr.mono (by decide)) (pa_cons (pv 1) (pa_cons (pv 0) pa_nil)))) (pe_op op_mul (pv 1) (pe_gi T.i_PAGE)) (nomark _))
        (pss_one (ps_aug (i := 1) sc_run_pages.nd rfl (.inl rfl) pe_int ip_add)))
      (pss_one (ps_ret (pv 1))))), ?_⟩
    unfold runPages at hp
    split at hp
    case isFalse => cases hp
    rename_i hb
    refine ⟨fun n σ H' => ∃ pages : Int, σ = [some (.int small), some (.int pages)] ∧ rpGo small n pages = some p ∧ H' = H, ⟨64, 1, rfl, hp, rfl⟩, ?_⟩
    rintro n σ H' ⟨pages, rfl, hr, rfl⟩
    refine ⟨_, rfl, _, rfl, pages, small, rfl, hb.1, hb.2, _, _, rfl, rfl, .inl ⟨by decide, by decide⟩, _, rfl, _, _, rfl, rfl, .inr ⟨by decide, by decide⟩, _, _, rfl, rfl, _, rfl, ?_⟩
    cases n with
    | zero => cases hr
    | succ n =>
      unfold rpGo at hr
      refine ite2 (fun q => ?_) (fun q => ?_)
      · rw [if_pos (of_decide_eq_true q)] at hr
        refine ⟨_, fun σ' H' z => ⟨n, Nat.lt_succ_self n, z⟩, _, rfl, _, _, rfl, rfl, ?_⟩
        exact ⟨_, rfl, hr, rfl⟩
      · rw [if_neg fun z => q (decide_eq_true z)] at hr
        cases hr
        exact ⟨_, rfl, k⟩
def sp_pages_of (K : PySem.W.Frag) : Sp := fun vs H Q _ => ∃ (size : Int), vs = [.int size] ∧ Q (.int (pagesOf size)) H
theorem sc_pages_of : FnScope ["size"] ["size"] (defScope s_pages_of) := ⟨rfl, rfl, rfl, by decide +kernel, rfl, by decide +kernel, by decide +kernel⟩
theorem ok_pages_of (T : Env K mg) : DOk P w K mg base 1 ("pages_of", none) ["size"] (sp_pages_of K) := by
  obtain ⟨fd, F⟩ := T.d_pages_of
  refine ⟨fd, F.ok sc_pages_of (fun vs H Q E h => ?_) (fun cdv A outer s H vs Q E hr h => ?_), F.bindsN fun _ _ _ _ _ _ us hl => match us, hl with | [_], _ => rfl, F.kp⟩
  · obtain ⟨size, rfl, k⟩ := h
    rfl
  · obtain ⟨size, rfl, k⟩ := h
    refine ⟨_, PSs.nox (pss_one (ps_ret (pe_op op_fdivN (pe_op op_sub (pe_op op_add (pv 0) (pe_gi T.i_PAGE)) pe_int) (pe_gi T.i_PAGE)))), ?_⟩
    exact ⟨_, rfl, _, _, rfl, rfl, _, _, rfl, rfl, _, _, rfl, rfl, ⟨by decide, by decide⟩, k⟩
/-! ### Run -/
theorem rpGo_pos (small : Int) : ∀ (n : Nat) (p q : Int), 0 < p → rpGo small n p = some q → 0 < q
  | 0, _, _, _, h => by cases h
  | n + 1, p, q, hp, h => by
    unfold rpGo at h
    split at h
    · exact rpGo_pos small n (p + 1) q (by omega) h
    · cases h
      exact hp
theorem pos_fdiv {small p : Int} (hs : 0 < small ∧ small ≤ 1000000) (hp : runPages small = some p) : 0 ≤ (p * 4096).fdiv small := by
  unfold runPages at hp
  rw [if_pos hs] at hp
  have := rpGo_pos small 64 1 p (by omega) hp
  rw [Int.fdiv_eq_ediv_of_nonneg _ (by omega)]
  exact Int.ediv_nonneg (by omega) (by omega)
abbrev oRun (K : PySem.W.Frag) (dx ul : Addr) (r : MRun) : HO := .ins (He.ga K "Run") dx (k_Run.zip [.int r.first, .int r.small, .int r.pages, .ref ul])
def sp_Run_init (K : PySem.W.Frag) : Sp := fun vs H Q _ => ∃ (a dx : Addr) (first small : Int) (r : MRun) (F : Cells), vs = [.ref a, .int first, .int small] ∧ Owns H (cel a (.ins (He.ga K "Run") dx []) + F) ∧ MRun.new first small = some r ∧
  ∀ (H' : Hp) ul, Owns H' (cel a (oRun K dx ul r) + (cel ul (.lst (r.used.map V.bl)) + F)) → Q .non H'
theorem sc_Run_init : FnScope ["self", "first", "small", "k"] ["self", "first", "small"] (defScope s_Run_init) := ⟨rfl, rfl, rfl, by decide +kernel, rfl, by decide +kernel, by decide +kernel⟩
theorem ok_Run_init (T : Env K mg) : DOk P w K mg base 3 ("Run", some "__init__") ["self", "first", "small"] (sp_Run_init K) := by
  obtain ⟨fd, F⟩ := T.d_Run_init
  refine ⟨fd, F.ok sc_Run_init (fun vs H Q E h => ?_) (fun cdv A outer s H vs Q E hr h => ?_), F.bindsN fun _ _ _ _ _ _ us hl => match us, hl with | [_, _, _], _ => rfl, F.kp⟩
  · obtain ⟨a, dx, first, small, r, F, rfl, hO, hR, k⟩ := h
    rfl
  · obtain ⟨a, dx, first, small, r, F, rfl, hO, hR, k⟩ := h
    refine ⟨_, PSs.nox (pss_cons (ksfld (K := K) rfl (pv 0) (pv 1) rfl)
      (pss_cons (ksfld (K := K) rfl (pv 0) (pv 2) rfl)
      (pss_cons (ksfld (K := K) rfl (pv 0) (pcl (K := K) rfl T.g_run_pages (ok_run_pages T) (hr.mono (by decide)) (pa_cons (pv 2) pa_nil)) rfl)
      (pss_one (ksfld (K := K) rfl (pv 0) (pe_lc (own := [("k", 3)]) (g := gName 3) rfl sc_Run_init.nd (pi_range1 (by rfl) T.f_range (pa_cons (pe_op op_fdivN (pe_op op_mul (kfld (K := K) rfl (pv 0) rfl) (pe_gi T.i_PAGE)) (pv 2)) pa_nil)) (blkOk_by (own := [("k", 3)]) (N := ["self", "first", "small", "k"]) (sc := defScope s_Run_init) (by decide +kernel)) (fun _ _ _ _ _ => pg_name (i := 3) sc_Run_init.nd rfl (Or.inl rfl)) (fun _ _ _ _ _ => pts_nil) (fun _ _ _ _ _ => pe_bl)) rfl))))), ?_⟩
    obtain ⟨p, hp, hR⟩ := Option.bind_eq_some_iff.mp hR
    split at hR
    case isFalse => cases hR
    rename_i hb
    cases hR
    have hs : 0 < small ∧ small ≤ 1000000 := by
      unfold runPages at hp
      split at hp
      case isFalse => cases hp
      assumption
    refine ⟨_, rfl, _, rfl, _, _, _, _, rfl, hO.rd a, T.c_Run, T.n_Run_first, (by show 0 < 1000; decide), ?_⟩
    have h1 := hO.up a (.ins (He.ga K "Run") dx ((["first"] : List Str).zip [.int first]))
    refine ⟨_, rfl, _, rfl, _, _, _, _, rfl, h1.rd a, T.c_Run, T.n_Run_small, lnz (by decide) _, ?_⟩
    have h2 := h1.upA a nz_Run_small (.int small)
    refine ⟨_, rfl, small, p, rfl, hp, _, rfl, _, _, _, _, rfl, h2.rd a, T.c_Run, T.n_Run_pages, lnz (by decide) _, ?_⟩
    have h3 := h2.upA a nz_Run_pages (.int p)
    refine ⟨_, rfl, _, _, _, _, _, rfl, h3.rd a, T.c_Run, T.n_Run_pages, lkz (ks := ["first", "small", "pages"]) (i := 2) (by decide +kernel) _, _, _, rfl, rfl, .inr ⟨by decide, by decide⟩, _, rfl, _, _, rfl, rfl, ⟨by omega, by omega⟩, ?_⟩
    refine ⟨_, rfl, ?_, by omega, fun ul hul => lcA (List.range ((p * 4096).fdiv small).toNat) (fun i => .int (0 + (i : Int))) walk_range (List.length_range) (fun i H x H' hi y => ⟨y.1, i, List.getElem?_range hi, y.2⟩) h3 (fun _ _ => trivial) (fun _ => true) (fun _ => V.bl false) hul (mil (by omega)) (fun _ => rfl) (fun _ _ _ _ Q q => q) (fun _ _ _ _ _ Q q => q) (fun H h4 => ?_)⟩
    · have := pos_fdiv hs hp
      omega
    refine ⟨_, rfl, _, _, _, _, rfl, h4.rd a, T.c_Run, T.n_Run_used, lnz (by decide) _, ?_⟩
    have h5 := h4.upA a nz_Run_used (.ref ul)
    have e1 : (List.map (fun _ => V.bl false) (List.filter (fun _ => true) (List.range ((p * 4096).fdiv small).toNat))) = (List.replicate ((p * 4096).fdiv small).toNat false).map V.bl := by
      rw [List.filter_eq_self.mpr (fun _ _ => rfl), List.map_const', List.length_range, List.map_replicate]
    rw [e1] at h5
    exact k _ _ (h5.to (by
      show cel a (oRun K dx ul ⟨first, small, p, List.replicate ((p * 4096).fdiv small).toNat false⟩) + _ = _
      rfl))
def sp_Run_has_free (K : PySem.W.Frag) : Sp := fun vs H Q _ => ∃ (a dx ul : Addr) (r : MRun) (F : Cells), vs = [.ref a] ∧ Owns H (cel a (oRun K dx ul r) + (cel ul (.lst (r.used.map V.bl)) + F)) ∧
  (∀ H', Owns H' (cel a (oRun K dx ul r) + (cel ul (.lst (r.used.map V.bl)) + F)) → Q (.bl r.hasFree) H')
theorem flat_bls (l : List Bool) : (l.map V.bl).all flatV = true := by
  rw [List.all_map]
  exact List.all_eq_true.mpr fun _ _ => rfl
theorem in_false (l : List Bool) : inV (V.bl false) (l.map V.bl) = l.any fun b => !b := by
  unfold inV
  rw [List.any_map]
  congr 1
  funext b
  cases b <;> rfl
theorem in_true (l : List Bool) : inV (V.bl true) (l.map V.bl) = l.any fun b => b := by
  unfold inV
  rw [List.any_map]
  congr 1
  funext b
  cases b <;> rfl
theorem sc_Run_has_free : FnScope ["self"] ["self"] (defScope s_Run_has_free) := ⟨rfl, rfl, rfl, by decide +kernel, rfl, by decide +kernel, by decide +kernel⟩
theorem ok_Run_has_free (T : Env K mg) : DOk P w K mg base 1 ("Run", some "has_free") ["self"] (sp_Run_has_free K) := by
  obtain ⟨fd, F⟩ := T.d_Run_has_free
  refine ⟨fd, F.ok sc_Run_has_free (fun vs H Q E h => ?_) (fun cdv A outer s H vs Q E hr h => ?_), F.bindsN fun _ _ _ _ _ _ us hl => match us, hl with | [_], _ => rfl, F.kp⟩
  · obtain ⟨a, dx, ul, r, F, rfl, hO, k⟩ := h
    rfl
  · obtain ⟨a, dx, ul, r, F, rfl, hO, k⟩ := h
    refine ⟨_, PSs.nox (pss_one (ps_ret (pe_cmpR op_in_seq pe_bl (kfld (K := K) rfl (pv 0) rfl) (by rfl)))), ?_⟩
    refine ⟨_, rfl, _, _, _, _, _, rfl, hO.rd a, T.c_Run, T.n_Run_used, lkz ix_Run_used _, ul, _, rfl, .inl (SqL.of (hO.rd ul)), rfl, flat_bls _, ?_⟩
    have g := k _ hO
    unfold MRun.hasFree at g
    rw [← in_false] at g
    exact g
def sp_Run_is_empty (K : PySem.W.Frag) : Sp := fun vs H Q _ => ∃ (a dx ul : Addr) (r : MRun) (F : Cells), vs = [.ref a] ∧ Owns H (cel a (oRun K dx ul r) + (cel ul (.lst (r.used.map V.bl)) + F)) ∧
  (∀ H', Owns H' (cel a (oRun K dx ul r) + (cel ul (.lst (r.used.map V.bl)) + F)) → Q (.bl r.isEmpty) H')
theorem sc_Run_is_empty : FnScope ["self"] ["self"] (defScope s_Run_is_empty) := ⟨rfl, rfl, rfl, by decide +kernel, rfl, by decide +kernel, by decide +kernel⟩
theorem ok_Run_is_empty (T : Env K mg) : DOk P w K mg base 1 ("Run", some "is_empty") ["self"] (sp_Run_is_empty K) := by
  obtain ⟨fd, F⟩ := T.d_Run_is_empty
  refine ⟨fd, F.ok sc_Run_is_empty (fun vs H Q E h => ?_) (fun cdv A outer s H vs Q E hr h => ?_), F.bindsN fun _ _ _ _ _ _ us hl => match us, hl with | [_], _ => rfl, F.kp⟩
  · obtain ⟨a, dx, ul, r, F, rfl, hO, k⟩ := h
    rfl
  · obtain ⟨a, dx, ul, r, F, rfl, hO, k⟩ := h
    refine ⟨_, PSs.nox (pss_one (ps_ret (pe_cmpR op_notIn_seq pe_bl (kfld (K := K) rfl (pv 0) rfl) (by rfl)))), ?_⟩
    refine ⟨_, rfl, _, _, _, _, _, rfl, hO.rd a, T.c_Run, T.n_Run_used, lkz ix_Run_used _, ul, _, rfl, .inl (SqL.of (hO.rd ul)), rfl, flat_bls _, ?_⟩
    have g := k _ hO
    unfold MRun.isEmpty at g
    rw [← in_true] at g
    exact g
def sp_Run_place_at (K : PySem.W.Frag) : Sp := fun vs H Q _ => ∃ (a dx ul : Addr) (r : MRun) (n : Int), vs = [.ref a, .int n] ∧ H a = some (oRun K dx ul r) ∧ 0 ≤ r.small ∧ r.small ≤ 1000000 ∧ Q (.int (r.placeAt n)) H
theorem sc_Run_place_at : FnScope ["self", "k"] ["self", "k"] (defScope s_Run_place_at) := ⟨rfl, rfl, rfl, by decide +kernel, rfl, by decide +kernel, by decide +kernel⟩
theorem ok_Run_place_at (T : Env K mg) : DOk P w K mg base 1 ("Run", some "place_at") ["self", "k"] (sp_Run_place_at K) := by
  obtain ⟨fd, F⟩ := T.d_Run_place_at
  refine ⟨fd, F.ok sc_Run_place_at (fun vs H Q E h => ?_) (fun cdv A outer s H vs Q E hr h => ?_), F.bindsN fun _ _ _ _ _ _ us hl => match us, hl with | [_, _], _ => rfl, F.kp⟩
  · obtain ⟨a, dx, ul, r, n, rfl, h, hs0, hs1, k⟩ := h
    rfl
  · obtain ⟨a, dx, ul, r, n, rfl, h, hs0, hs1, k⟩ := h
    refine ⟨_, PSs.nox (pss_one (ps_ret (pe_op op_add (pe_op op_mul (kfld (K := K) rfl (pv 0) rfl) (pe_gi T.i_PAGE)) (pe_op op_mul (pv 1) (kfld (K := K) rfl (pv 0) rfl))))), ?_⟩
    exact ⟨_, rfl, _, _, _, _, _, rfl, h, T.c_Run, T.n_Run_first, lkz ix_Run_first _, _, _, rfl, rfl, .inr ⟨by decide, by decide⟩, _, rfl, _, rfl, _, _, _, _, _, rfl, h, T.c_Run, T.n_Run_small, lkz ix_Run_small _, _, _, rfl, rfl, .inr ⟨by omega, by omega⟩, _, _, rfl, rfl, k⟩
def sp_Run_number_at (K : PySem.W.Frag) : Sp := fun vs H Q _ => ∃ (a dx ul : Addr) (r : MRun) (n : Int), vs = [.ref a, .int n] ∧ H a = some (oRun K dx ul r) ∧ 0 < r.small ∧ r.small ≤ 1000000 ∧ Q (.int (r.numberAt n)) H
theorem sc_Run_number_at : FnScope ["self", "place"] ["self", "place"] (defScope s_Run_number_at) := ⟨rfl, rfl, rfl, by decide +kernel, rfl, by decide +kernel, by decide +kernel⟩
theorem ok_Run_number_at (T : Env K mg) : DOk P w K mg base 1 ("Run", some "number_at") ["self", "place"] (sp_Run_number_at K) := by
  obtain ⟨fd, F⟩ := T.d_Run_number_at
  refine ⟨fd, F.ok sc_Run_number_at (fun vs H Q E h => ?_) (fun cdv A outer s H vs Q E hr h => ?_), F.bindsN fun _ _ _ _ _ _ us hl => match us, hl with | [_, _], _ => rfl, F.kp⟩
  · obtain ⟨a, dx, ul, r, n, rfl, h, hs0, hs1, k⟩ := h
    rfl
  · obtain ⟨a, dx, ul, r, n, rfl, h, hs0, hs1, k⟩ := h
    refine ⟨_, PSs.nox (pss_one (ps_ret (pe_op op_fdivN (pe_op op_sub (pv 1) (pe_op op_mul (kfld (K := K) rfl (pv 0) rfl) (pe_gi T.i_PAGE))) (kfld (K := K) rfl (pv 0) rfl)))), ?_⟩
    exact ⟨_, rfl, _, rfl, _, _, _, _, _, rfl, h, T.c_Run, T.n_Run_first, lkz ix_Run_first _, _, _, rfl, rfl, .inr ⟨by decide, by decide⟩, _, _, rfl, rfl, _, rfl, _, _, _, _, _, rfl, h, T.c_Run, T.n_Run_small, lkz ix_Run_small _, _, _, rfl, rfl, ⟨by omega, by omega⟩, k⟩
/-! ### Block -/
abbrev oBlock (K : PySem.W.Frag) (dx : Addr) (size : Int) (run : V) : HO := .ins (He.ga K "Block") dx (k_Block.zip [.int size, run])
def sp_Block_init (K : PySem.W.Frag) : Sp := fun vs H Q _ => ∃ (a dx : Addr) (size : Int) (run : V) (F : Cells), vs = [.ref a, .int size, run] ∧ Owns H (cel a (.ins (He.ga K "Block") dx []) + F) ∧
  ∀ (H' : Hp), Owns H' (cel a (oBlock K dx size run) + F) → Q .non H'
theorem sc_Block_init : FnScope ["self", "size", "run"] ["self", "size", "run"] (defScope s_Block_init) := ⟨rfl, rfl, rfl, by decide +kernel, rfl, by decide +kernel, by decide +kernel⟩
theorem ok_Block_init (T : Env K mg) : DOk P w K mg base 1 ("Block", some "__init__") ["self", "size", "run"] (sp_Block_init K) := by
  obtain ⟨fd, F⟩ := T.d_Block_init
  refine ⟨fd, F.ok sc_Block_init (fun vs H Q E h => ?_) (fun cdv A outer s H vs Q E hr h => ?_), F.bindsN fun _ _ _ _ _ _ us hl => match us, hl with | [_, _, _], _ => rfl, F.kp⟩
  · obtain ⟨a, dx, size, run, F, rfl, hO, k⟩ := h
    rfl
  · obtain ⟨a, dx, size, run, F, rfl, hO, k⟩ := h
    refine ⟨_, PSs.nox (pss_cons (ksfld (K := K) rfl (pv 0) (pv 1) rfl)
      (pss_one (ksfld (K := K) rfl (pv 0) (pv 2) rfl))), ?_⟩
    refine ⟨_, rfl, _, rfl, _, _, _, _, rfl, hO.rd a, T.c_Block, T.n_Block_size, (by show 0 < 1000; decide), ?_⟩
    have h1 := hO.up a (.ins (He.ga K "Block") dx ((["size"] : List Str).zip [.int size]))
    refine ⟨_, rfl, _, rfl, _, _, _, _, rfl, h1.rd a, T.c_Block, T.n_Block_run, lnz (by decide) _, ?_⟩
    exact k _ (h1.upA a nz_Block_run run)
def sp_Block_room (K : PySem.W.Frag) : Sp := fun vs H Q _ => ∃ (a dx : Addr) (size : Int) (run : V), vs = [.ref a] ∧ H a = some (oBlock K dx size run) ∧
  ((run = .non ∧ Q (.int (pagesOf size * 4096)) H) ∨ ∃ (ra rdx ul : Addr) (r : MRun), run = .ref ra ∧ H ra = some (oRun K rdx ul r) ∧ Q (.int r.small) H)
theorem sc_Block_room : FnScope ["self"] ["self"] (defScope s_Block_room) := ⟨rfl, rfl, rfl, by decide +kernel, rfl, by decide +kernel, by decide +kernel⟩
theorem ok_Block_room (T : Env K mg) : DOk P w K mg base 2 ("Block", some "room") ["self"] (sp_Block_room K) := by
  obtain ⟨fd, F⟩ := T.d_Block_room
  refine ⟨fd, F.ok sc_Block_room (fun vs H Q E h => ?_) (fun cdv A outer s H vs Q E hr h => ?_), F.bindsN fun _ _ _ _ _ _ us hl => match us, hl with | [_], _ => rfl, F.kp⟩
  · obtain ⟨a, dx, size, run, rfl, h, k⟩ := h
    rfl
  · obtain ⟨a, dx, size, run, rfl, h, k⟩ := h
    refine ⟨_, PSs.nox (pss_cons (ps_if (pt_cmpR op_isN (kfld (K := K) rfl (pv 0) rfl) pe_non (nomark _))
        (pss_one (ps_ret (pe_op op_mul (pcl (K := K) rfl T.g_pages_of (ok_pages_of T) (hr.mono (by decide)) (pa_cons (kfld (K := K) rfl (pv 0) rfl) pa_nil)) (pe_gi T.i_PAGE))))
        pss_nil)
      (pss_one (ps_ret (kfld (K := K) rfl (kfld (K := K) rfl (pv 0) rfl) rfl)))), ?_⟩
    rcases k with ⟨rfl, k⟩ | ⟨ra, rdx, ul, r, rfl, hr, k⟩
    · refine ⟨_, rfl, _, _, _, _, _, rfl, h, T.c_Block, T.n_Block_run, lkz ix_Block_run _, rfl, _, rfl, iteY rfl ?_⟩
      exact ⟨_, rfl, _, _, _, _, _, rfl, h, T.c_Block, T.n_Block_size, lkz ix_Block_size _, size, rfl, _, _, rfl, rfl, .inr ⟨by decide, by decide⟩, k⟩
    · refine ⟨_, rfl, _, _, _, _, _, rfl, h, T.c_Block, T.n_Block_run, lkz ix_Block_run _, rfl, _, rfl, iteN rfl ?_⟩
      exact ⟨_, rfl, _, _, _, _, _, rfl, h, T.c_Block, T.n_Block_run, lkz ix_Block_run _, _, _, _, _, _, rfl, hr, T.c_Run, T.n_Run_small, lkz ix_Run_small _, k⟩
end
end GK
end
section
set_option linter.all false
/-! dicts' laws -/
namespace GK
section
variable {β : Type}
theorem look_nil (k : Int) : look ([] : List (Int × β)) k = none := rfl
theorem look_cons_eq (p : Int × β) (l : List (Int × β)) {k : Int} (h : p.1 = k) : look (p :: l) k = some p.2 := by
  unfold look
  rw [List.find?_cons, decide_eq_true h]
  rfl
theorem look_cons_ne (p : Int × β) (l : List (Int × β)) {k : Int} (h : p.1 ≠ k) : look (p :: l) k = look l k := by
  unfold look
  rw [List.find?_cons, decide_eq_false h]
theorem look_mem' {l : List (Int × β)} {k : Int} {v : β} (h : look l k = some v) : (k, v) ∈ l := by
  induction l with
  | nil => cases h
  | cons p l ih =>
    by_cases e : p.1 = k
    · rw [look_cons_eq p l e] at h
      cases h
      rw [← e]
      exact List.mem_cons_self
    · rw [look_cons_ne p l e] at h
      exact List.mem_cons_of_mem _ (ih h)
theorem look_of_key {l : List (Int × β)} {k : Int} (h : k ∈ l.map (·.1)) : ∃ v, look l k = some v := by
  induction l with
  | nil => cases h
  | cons p l ih =>
    by_cases e : p.1 = k
    · exact ⟨_, look_cons_eq p l e⟩
    · rw [look_cons_ne p l e]
      rcases List.mem_cons.mp h with q | q
      · exact absurd q.symm e
      · exact ih q
theorem look_none_key {l : List (Int × β)} {k : Int} (h : (look l k).isSome = false) : k ∉ l.map (·.1) := fun m => by
  obtain ⟨v, e⟩ := look_of_key m
  rw [e] at h
  cases h
theorem key_none_look {l : List (Int × β)} {k : Int} (h : k ∉ l.map (·.1)) : look l k = none := by
  cases e : look l k with
  | none => rfl
  | some v => exact absurd (List.mem_map.mpr ⟨_, look_mem' e, rfl⟩) h
theorem look_of_mem {l : List (Int × β)} (hn : (l.map (·.1)).Nodup) {k : Int} {v : β} (h : (k, v) ∈ l) : look l k = some v := by
  induction l with
  | nil => cases h
  | cons p l ih =>
    have hn : (p.1 :: l.map (·.1)).Nodup := hn
    obtain ⟨h1, h2⟩ := List.nodup_cons.mp hn
    rcases List.mem_cons.mp h with e | m
    · rw [← e]
      exact look_cons_eq _ _ rfl
    · have ne : p.1 ≠ k := fun e => h1 (e ▸ List.mem_map.mpr ⟨_, m, rfl⟩)
      rw [look_cons_ne p l ne]
      exact ih h2 m
theorem put_map {l : List (Int × β)} {k : Int} {v v' : β} (h : look l k = some v) : put l k v' = l.map fun p => if p.1 = k then (p.1, v') else p := by
  unfold put
  have e : (l.any fun p => decide (p.1 = k)) = true := List.any_eq_true.mpr ⟨_, look_mem' h, decide_eq_true rfl⟩
  rw [if_pos e]
theorem put_keys {l : List (Int × β)} {k : Int} {v v' : β} (h : look l k = some v) : (put l k v').map (·.1) = l.map (·.1) := by
  rw [put_map h, List.map_map]
  refine List.map_congr_left fun p _ => ?_
  show (if p.1 = k then (p.1, v') else p).1 = p.1
  split <;> rfl
theorem put_length {l : List (Int × β)} {k : Int} {v v' : β} (h : look l k = some v) : (put l k v').length = l.length := by
  rw [put_map h, List.length_map]
theorem look_map_put (l : List (Int × β)) (k j : Int) (v : β) : look (l.map fun p => if p.1 = k then (p.1, v) else p) j = if j = k then (look l k).map (fun _ => v) else look l j := by
  induction l with
  | nil => simp [look_nil]
  | cons p l ih =>
    rw [List.map_cons]
    by_cases e : p.1 = k
    · rw [if_pos e]
      by_cases q : j = k
      · rw [if_pos q, look_cons_eq _ _ (by show p.1 = j; omega), look_cons_eq p l e]
        rfl
      · rw [look_cons_ne _ _ (by show p.1 ≠ j; omega), ih, if_neg q, if_neg q, look_cons_ne p l (by omega)]
    · rw [if_neg e]
      by_cases q : j = k
      · rw [look_cons_ne _ _ (by omega), ih, if_pos q, if_pos q, look_cons_ne p l e]
      · by_cases r : p.1 = j
        · rw [look_cons_eq _ _ r, if_neg q, look_cons_eq p l r]
        · rw [look_cons_ne _ _ r, ih, if_neg q, if_neg q, look_cons_ne p l r]
theorem look_put {l : List (Int × β)} {k : Int} {v v' : β} (h : look l k = some v) (j : Int) : look (put l k v') j = if j = k then some v' else look l j := by
  rw [put_map h, look_map_put, h]
  rfl
theorem look_del (l : List (Int × β)) (k j : Int) : look (del l k) j = if j = k then none else look l j := by
  induction l with
  | nil => simp [look_nil, del]
  | cons p l ih =>
    by_cases e : p.1 = k
    · have e1 : del (p :: l) k = del l k := by
        unfold del
        rw [List.filter_cons, if_neg (by simp [e])]
      rw [e1, ih]
      by_cases q : j = k
      · rw [if_pos q, if_pos q]
      · rw [if_neg q, if_neg q, look_cons_ne p l (by omega)]
    · have e1 : del (p :: l) k = p :: del l k := by
        unfold del
        rw [List.filter_cons, if_pos (by simp [e])]
      rw [e1]
      by_cases r : p.1 = j
      · rw [look_cons_eq _ _ r, look_cons_eq p l r, if_neg (by omega)]
      · rw [look_cons_ne _ _ r, look_cons_ne p l r, ih]
theorem look_append (l m : List (Int × β)) (j : Int) : look (l ++ m) j = (look l j).or (look m j) := by
  induction l with
  | nil => rfl
  | cons p l ih =>
    by_cases r : p.1 = j
    · rw [List.cons_append, look_cons_eq _ _ r, look_cons_eq _ _ r]
      rfl
    · rw [List.cons_append, look_cons_ne _ _ r, look_cons_ne _ _ r, ih]
theorem del_sub (l : List (Int × β)) (k : Int) : (del l k).Sublist l := List.filter_sublist
theorem del_nodup {l : List (Int × β)} (hn : (l.map (·.1)).Nodup) (k : Int) : ((del l k).map (·.1)).Nodup := ((del_sub l k).map _).nodup hn
theorem del_length (l : List (Int × β)) (k : Int) : (del l k).length ≤ l.length := (del_sub l k).length_le
theorem ins_nodup {l : List (Int × β)} (hn : (l.map (·.1)).Nodup) {k : Int} {v : β} (h : (look l k).isSome = false) : ((l ++ [(k, v)]).map (·.1)).Nodup := by
  rw [List.map_append]
  refine List.nodup_append.mpr ⟨hn, by simp, fun a ha b hb e => ?_⟩
  have : b = k := by simpa using hb
  exact look_none_key h (by rw [← this, ← e]; exact ha)
theorem put_mem {l : List (Int × β)} {k : Int} {v v' : β} (h : look l k = some v) {q : Int × β} (hq : q ∈ put l k v') : q = (k, v') ∨ (q.1 ≠ k ∧ q ∈ l) := by
  rw [put_map h] at hq
  obtain ⟨p, hp, e⟩ := List.mem_map.mp hq
  by_cases r : p.1 = k
  · rw [if_pos r] at e
    left
    rw [← e, r]
  · rw [if_neg r] at e
    right
    rw [← e]
    exact ⟨r, hp⟩
theorem del_mem {l : List (Int × β)} {k : Int} {q : Int × β} : q ∈ del l k ↔ q.1 ≠ k ∧ q ∈ l := by
  unfold del
  rw [List.mem_filter]
  constructor
  · rintro ⟨h1, h2⟩
    exact ⟨by simpa using h2, h1⟩
  · rintro ⟨h1, h2⟩
    exact ⟨h2, by simpa using h1⟩
end
end GK
end
section
set_option Elab.async false
set_option linter.all false
set_option maxRecDepth 100000
set_option maxHeartbeats 4000000
namespace GK
open PySem PySem.Spec PyProof.Rows L2
/-! ### sums of cells over a dict -/
section
variable {β : Type} {f : Int × β → Cells} {l : List (Int × β)} {k : Int} {v : β}
theorem sumC_del_no (h : k ∉ l.map (·.1)) : del l k = l := by
  unfold del
  refine List.filter_eq_self.mpr fun p hp => ?_
  have : p.1 ≠ k := fun e => h (e ▸ List.mem_map.mpr ⟨_, hp, rfl⟩)
  simpa using this
theorem sum_at (hn : (l.map (·.1)).Nodup) (h : look l k = some v) : sumC f l = f (k, v) + sumC f (del l k) ∧ ∀ v', sumC f (put l k v') = f (k, v') + sumC f (del l k) := by
  induction l with
  | nil => cases h
  | cons p l ih =>
    have hn : (p.1 :: l.map (·.1)).Nodup := hn
    obtain ⟨h1, h2⟩ := List.nodup_cons.mp hn
    by_cases e : p.1 = k
    · subst e
      rw [look_cons_eq p l rfl] at h
      cases h
      have ed : del (p :: l) p.1 = l := by
        have : del (p :: l) p.1 = del l p.1 := by
          unfold del
          rw [List.filter_cons, if_neg (by simp)]
        rw [this, sumC_del_no h1]
      rw [ed]
      refine ⟨rfl, fun v' => ?_⟩
      rw [put_map (look_cons_eq p l rfl), List.map_cons, if_pos rfl]
      show f (p.1, v') + sumC f _ = _
      congr 1
      have em : (l.map fun q => if q.1 = p.1 then (q.1, v') else q) = l := by
        refine (List.map_congr_left (g := fun q => q) fun q hq => ?_).trans (List.map_id' l)
        have ne : ¬ q.1 = p.1 := fun w => h1 (List.mem_map.mpr ⟨q, hq, w⟩)
        rw [if_neg ne]
      rw [em]
    · rw [look_cons_ne p l e] at h
      obtain ⟨i1, i2⟩ := ih h2 h
      have ed : del (p :: l) k = p :: del l k := by
        unfold del
        rw [List.filter_cons, if_pos (by simp [e])]
      rw [ed]
      refine ⟨?_, fun v' => ?_⟩
      · show f p + sumC f l = f (k, v) + (f p + sumC f (del l k))
        rw [i1]
        ac_rfl
      · rw [put_map (by rw [look_cons_ne p l e]; exact h), List.map_cons, if_neg e]
        show f p + sumC f _ = f (k, v') + (f p + sumC f (del l k))
        rw [← put_map (v' := v') h, i2 v']
        ac_rfl
theorem sum_ins : sumC f (l ++ [(k, v)]) = sumC f l + f (k, v) := by
  rw [sumC_append]
  show sumC f l + (f (k, v) + nil) = _
  rw [add_nil]
end
/-! ### Blocks -/
structure RL where
  a : Addr
  dx : Addr
  u : Addr
structure BL where
  a : Addr
  dx : Addr
  r : Addr
structure BLay where
  dx : Addr
  bd : Addr
  rd : Addr
  pa : Addr
  rl : Int → RL
  bl : Int → BL
abbrev oBlocks (K : PySem.W.Frag) (L : BLay) : HO := .ins (He.ga K "Blocks") L.dx (k_Blocks.zip [.ref L.pa, .ref L.bd, .ref L.rd])
def runV (b : MBlock) (r : Addr) : V := match b.run with
  | none => .non
  | some _ => .ref r
noncomputable def blkC (K : PySem.W.Frag) (L : BLay) (p : Int × MBlock) : Cells := cel (L.bl p.1).a (oBlock K (L.bl p.1).dx p.2.size (runV p.2 (L.bl p.1).r))
noncomputable def runC (K : PySem.W.Frag) (L : BLay) (p : Int × MRun) : Cells := cel (L.rl p.1).a (oRun K (L.rl p.1).dx (L.rl p.1).u p.2) + cel (L.rl p.1).u (.lst (p.2.used.map V.bl))
abbrev gB (L : BLay) : Int → MBlock → V := fun k _ => .ref (L.bl k).a
abbrev gR (L : BLay) : Int → MRun → V := fun k _ => .ref (L.rl k).a
def Links (L : BLay) (m : MBlocks) : Prop := ∀ p ∈ m.blocks, ∀ f, p.2.run = some f → (look m.runs f).isSome = true → (L.bl p.1).r = (L.rl f).a
structure BOk (L : BLay) (m : MBlocks) : Prop where
  lb : m.blocks.length ≤ LIM
  lr : m.runs.length ≤ LIM
  nb : (m.blocks.map (·.1)).Nodup
  nr : (m.runs.map (·.1)).Nodup
  li : Links L m
/-- all but the object of the house of blocks and of pages -/
noncomputable def blocksC (K : PySem.W.Frag) (a : Addr) (L : BLay) (m : MBlocks) : Cells := cel a (oBlocks K L) + (cel L.bd (.dK (dk (gB L) m.blocks)) + (cel L.rd (.dK (dk (gR L) m.runs)) + (sumC (blkC K L) m.blocks + sumC (runC K L) m.runs)))
def BlocksL (K : PySem.W.Frag) (a : Addr) (L : BLay) (m : MBlocks) (c : Cells) : Prop := BOk L m ∧ ∃ cp, PagesAt K L.pa m.pg cp ∧ c = blocksC K a L m + cp
theorem dk_keys {β : Type} {g : Int → V} {l l' : List (Int × β)} (h : l.map (·.1) = l'.map (·.1)) : dk (fun k (_ : β) => g k) l = dk (fun k (_ : β) => g k) l' := by
  have e : ∀ m : List (Int × β), dk (fun k (_ : β) => g k) m = (m.map (·.1)).map fun k => ((Sum.inl k : Key), g k) := fun m => by
    unfold dk
    rw [List.map_map]
    rfl
  rw [e, e, h]
section
variable {P : Program} {w : World} {K : PySem.W.Frag} {mg : Str → Option Value} {base : Heap}
def sp_Blocks_init (K : PySem.W.Frag) : Sp := fun vs H Q _ => ∃ (a dx pa : Addr) (m : MPages) (cp F : Cells), vs = [.ref a, .ref pa] ∧ PagesAt K pa m cp ∧ Owns H (cel a (.ins (He.ga K "Blocks") dx []) + (cp + F)) ∧
  ∀ (H' : Hp) (L : BLay) (c : Cells), BlocksL K a L ⟨m, [], []⟩ c → Owns H' (c + F) → Q .non H'
theorem sc_Blocks_init : FnScope ["self", "pages"] ["self", "pages"] (defScope s_Blocks_init) := ⟨rfl, rfl, rfl, by decide +kernel, rfl, by decide +kernel, by decide +kernel⟩
theorem ok_Blocks_init (T : Env K mg) : DOk P w K mg base 1 ("Blocks", some "__init__") ["self", "pages"] (sp_Blocks_init K) := by
  obtain ⟨fd, F⟩ := T.d_Blocks_init
  refine ⟨fd, F.ok sc_Blocks_init (fun vs H Q E h => ?_) (fun cdv A outer s H vs Q E hr h => ?_), F.bindsN fun _ _ _ _ _ _ us hl => match us, hl with | [_, _], _ => rfl, F.kp⟩
  · obtain ⟨a, dx, pa, m, cp, F, rfl, hP, hO, k⟩ := h
    rfl
  · obtain ⟨a, dx, pa, m, cp, F, rfl, hP, hO, k⟩ := h
    refine ⟨_, PSs.nox (pss_cons (ksfld (K := K) rfl (pv 0) (pv 1) rfl)
      (pss_cons (ksfld (K := K) rfl (pv 0) pe_dnewK rfl)
      (pss_one (ksfld (K := K) rfl (pv 0) pe_dnewK rfl)))), ?_⟩
    refine ⟨_, rfl, _, rfl, _, _, _, _, rfl, hO.rd a, T.c_Blocks, T.n_Blocks_pages, (by show 0 < 1000; decide), ?_⟩
    have h1 := hO.up a (.ins (He.ga K "Blocks") dx ((["pages"] : List Str).zip [.ref pa]))
    intro bd hbd
    have h2 := h1.new hbd (o := .dK [])
    refine ⟨_, rfl, _, _, _, _, rfl, h2.rd a, T.c_Blocks, T.n_Blocks_blocks, lnz (by decide) _, ?_⟩
    have h3 := h2.upA a nz_Blocks_blocks (.ref bd)
    intro rd hrd
    have h4 := h3.new hrd (o := .dK [])
    refine ⟨_, rfl, _, _, _, _, rfl, h4.rd a, T.c_Blocks, T.n_Blocks_runs, lnz (by decide) _, ?_⟩
    have h5 := h4.upA a nz_Blocks_runs (.ref rd)
    let L : BLay := ⟨dx, bd, rd, pa, fun _ => ⟨0, 0, 0⟩, fun _ => ⟨0, 0, 0⟩⟩
    refine k _ L _ ⟨⟨Nat.zero_le _, Nat.zero_le _, List.nodup_nil, List.nodup_nil, fun p hp => by cases hp⟩, cp, hP, rfl⟩ (h5.to ?_)
    show cel a (oBlocks K L) + _ = cel a (oBlocks K L) + (cel bd (.dK []) + (cel rd (.dK []) + (nil + nil))) + cp + F
    rw [add_nil, add_nil]
    ac_rfl
def sp_Blocks_runs_with_room (K : PySem.W.Frag) : Sp := fun vs H Q _ => ∃ (a : Addr) (L : BLay) (m : MBlocks) (small : Int) (F : Cells), vs = [.ref a, .int small] ∧ BOk L m ∧ Owns H (blocksC K a L m + F) ∧
  ∀ H' p, Owns H' (cel p (.lst ((runsWithRoom m.runs small).map fun f => V.ref (L.rl f).a)) + (blocksC K a L m + F)) → Q (.ref p) H'
theorem sc_Blocks_runs_with_room : FnScope ["self", "small", "found", "first", "run"] ["self", "small"] (defScope s_Blocks_runs_with_room) := ⟨rfl, rfl, rfl, by decide +kernel, rfl, by decide +kernel, by decide +kernel⟩
theorem ok_Blocks_runs_with_room (T : Env K mg) : DOk P w K mg base 2 ("Blocks", some "runs_with_room") ["self", "small"] (sp_Blocks_runs_with_room K) := by
  obtain ⟨fd, F⟩ := T.d_Blocks_runs_with_room
  refine ⟨fd, F.ok sc_Blocks_runs_with_room (fun vs H Q E h => ?_) (fun cdv A outer s H vs Q E hr h => ?_), F.bindsN fun _ _ _ _ _ _ us hl => match us, hl with | [_, _], _ => rfl, F.kp⟩
  · obtain ⟨a, L, m, small, F, rfl, ok, hO, k⟩ := h
    rfl
  · obtain ⟨a, L, m, small, F, rfl, ok, hO, k⟩ := h
    refine ⟨_, PSs.nox (pss_cons (ps_set (i := 2) sc_Blocks_runs_with_room.nd rfl (Or.inl rfl) (pe_lst pa_nil))
      (pss_cons (ps_for PassesOwn.never rfl (kpi (K := K) rfl (pe_callB (cr_sortedDI rfl) (by rfl) T.f_sorted (by decide +kernel) (pa_cons (kfld (K := K) rfl (pv 0) rfl) pa_nil))) (pg_name (i := 3) sc_Blocks_runs_with_room.nd rfl (Or.inl rfl))
        (pss_cons (ps_set (i := 4) sc_Blocks_runs_with_room.nd rfl (Or.inl rfl) (pe_dget (hu_of hr) (kfld (K := K) rfl (pv 0) rfl) (pv 3) (fun _ _ => rfl)))
      (pss_one (ps_if (PW.pt (pw_and (pt_cmpR op_eq (kfld (K := K) rfl (pv 4) rfl) (pv 1) (nomark _)) (pw_and1 (pt_val (pmt0 (K := K) rfl (pv 4) T.c_Run T.m_Run_has_free (ok_Run_has_free T) (hr.mono (by decide)))))))
        (pss_one (ps_expr (pe_bm PySem.F.plainAttrs_list PySem.F.slot_list_append PySem.F.type_list_append mt_append (pv 2) (pa_cons (pv 4) pa_nil))))
        pss_nil))))
      (pss_one (ps_ret (pv 2))))), ?_⟩
    refine ⟨Nat.zero_le _, fun fd hfd => ?_⟩
    have h1 := hO.new hfd (o := .lst [])
    have h1' := h1
    unfold blocksC at h1'
    refine ⟨_, rfl, _, _, _, _, _, rfl, h1'.rd a, T.c_Blocks, T.n_Blocks_runs, lkz ix_Blocks_runs _, L.rd, _, m.runs.map (·.1), rfl, .inl (h1'.rd L.rd), keys_dk, fun ys q hp hs hq => ?_⟩
    obtain rfl := isort_of hp hs
    have h2 := h1.new hq (o := .lst ((isort (m.runs.map (·.1))).map V.int))
    refine ⟨q, rfl, ⟨_, SqL.of h2.get⟩, for_list (K := K) (a := q) (xs := (isort (m.runs.map (·.1))).map V.int) (fun i σ H' => ∃ v1 v2 : Option V, σ = [some (.ref a), some (.int small), some (.ref fd), v1, v2] ∧
      Owns H' (cel fd (.lst ((((isort (m.runs.map (·.1))).take i).filter fun f => match look m.runs f with
        | some r => decide (r.small = small) && r.hasFree
        | none => false).map fun f => V.ref (L.rl f).a)) + (cel q (.lst ((isort (m.runs.map (·.1))).map V.int)) + (blocksC K a L m + F)))) ⟨none, none, rfl, h2.to (by
          show _ = cel fd (.lst []) + _
          ac_rfl)⟩ (fun i σ H' _ h => ?_) ?_ ?_⟩
    · obtain ⟨_, _, _, h⟩ := h
      exact SqL.of (h.rd q)
    · rintro i y σ H' hi ⟨v1, v2, rfl, h⟩
      obtain ⟨z, hz, rfl⟩ := get_ints hi
      have hzk : z ∈ m.runs.map (·.1) := (List.mergeSort_perm _ _).mem_iff.mp (List.mem_of_getElem? hz)
      obtain ⟨r, hlr⟩ := look_of_key hzk
      have e1 := (sum_at (f := runC K L) ok.nr hlr).1
      have h' := h
      unfold blocksC at h'
      rw [e1] at h'
      unfold runC at h'
      rw [take_more hz, List.filter_append]
      refine ⟨_, rfl, _, _, _, _, _, rfl, h'.rd a, T.c_Blocks, T.n_Blocks_runs, lkz ix_Blocks_runs _, _, rfl, L.rd, _, rfl, dget (g := gR L) (h'.rd L.rd) hlr, ?_⟩
      refine ⟨_, rfl, _, _, _, _, _, rfl, h'.rd (L.rl z).a, T.c_Run, T.n_Run_small, lkz ix_Run_small _, _, rfl, rfl, _, rfl, ?_⟩
      rw [dec_int]
      have ef : ([z].filter fun f => match look m.runs f with
        | some r => decide (r.small = small) && r.hasFree
        | none => false) = if (decide (r.small = small) && r.hasFree) = true then [z] else [] := by
        rw [List.filter_cons, hlr]
        rfl
      rw [ef]
      have no : (decide (r.small = small) && r.hasFree) = false → ∀ H2, Owns H2 (cel fd (.lst ((((isort (m.runs.map (·.1))).take i).filter fun f => match look m.runs f with
        | some r => decide (r.small = small) && r.hasFree
        | none => false).map fun f => V.ref (L.rl f).a)) + (cel q (.lst ((isort (m.runs.map (·.1))).map V.int)) + (blocksC K a L m + F))) → Owns H2 (cel fd (.lst ((((isort (m.runs.map (·.1))).take i).filter (fun f => match look m.runs f with
        | some r => decide (r.small = small) && r.hasFree
        | none => false) ++ if (decide (r.small = small) && r.hasFree) = true then [z] else []).map fun f => V.ref (L.rl f).a)) + (cel q (.lst ((isort (m.runs.map (·.1))).map V.int)) + (blocksC K a L m + F))) := fun e H2 h2 => by
        rw [e, if_neg Bool.false_ne_true, List.append_nil]
        exact h2
      by_cases q1 : r.small = small
      · refine iteYd q1 ?_
        refine ⟨_, rfl, _, _, _, rfl, h'.rd (L.rl z).a, lkn nx_Run_has_free _, (L.rl z).a, _, _, r, _, rfl, (h'.at_ (L.rl z).a).to (by
          show _ = cel (L.rl z).a (oRun K (L.rl z).dx (L.rl z).u r) + (cel (L.rl z).u (.lst (r.used.map V.bl)) + (cel fd (.lst ((((isort (m.runs.map (·.1))).take i).filter fun f => match look m.runs f with
            | some r => decide (r.small = small) && r.hasFree
            | none => false).map fun f => V.ref (L.rl f).a)) + (cel q (.lst ((isort (m.runs.map (·.1))).map V.int)) + (cel a (oBlocks K L) + (cel L.bd (.dK (dk (gB L) m.blocks)) + (cel L.rd (.dK (dk (gR L) m.runs)) + (sumC (blkC K L) m.blocks + sumC (runC K L) (del m.runs z)))) + F))))
          ac_rfl), fun H2 h2 => ⟨_, rfl, ?_⟩⟩
        have h3 : Owns H2 (cel fd (.lst ((((isort (m.runs.map (·.1))).take i).filter fun f => match look m.runs f with
            | some r => decide (r.small = small) && r.hasFree
            | none => false).map fun f => V.ref (L.rl f).a)) + (cel q (.lst ((isort (m.runs.map (·.1))).map V.int)) + (blocksC K a L m + F))) := h2.to (by
          unfold blocksC
          rw [e1]
          unfold runC
          ac_rfl)
        by_cases q2 : r.hasFree = true
        · refine iteY q2 ?_
          refine ⟨_, rfl, .inl ⟨rfl, _, SqL.of h3.get⟩, _, rfl, fd, _, _, rfl, rfl, h3.get, ?_, ?_⟩
          · rw [List.length_map]
            refine lt_lim (Nat.lt_of_le_of_lt (List.length_filter_le _ _) ?_)
            rw [List.length_take]
            have hl : i < (isort (m.runs.map (·.1))).length := (List.getElem?_eq_some_iff.mp hz).1
            have hl2 : (isort (m.runs.map (·.1))).length = m.runs.length := by
              unfold isort
              rw [List.length_mergeSort, List.length_map]
            have := ok.lr
            omega
          · refine ⟨_, _, rfl, ?_⟩
            rw [decide_eq_true q1, q2, Bool.true_and, if_pos rfl, List.map_append]
            exact h3.put
        · have q2 : r.hasFree = false := by simpa using q2
          exact iteN q2 ⟨_, _, rfl, no (by rw [q2, Bool.and_false]) _ h3⟩
      · exact iteNd q1 (iteF ⟨_, _, rfl, no (by rw [decide_eq_false q1, Bool.false_and]) _ h⟩)
    · rintro σ H' ⟨v1, v2, rfl, h⟩
      rw [List.length_map, List.take_length] at h
      exact ⟨_, rfl, k _ _ (h.sub (e := cel q _) (by
        show _ = cel fd (.lst ((runsWithRoom m.runs small).map fun f => V.ref (L.rl f).a)) + _ + _
        unfold runsWithRoom
        ac_rfl))⟩
end
end GK
end
section
set_option Elab.async false
set_option linter.all false
set_option maxRecDepth 100000
set_option maxHeartbeats 4000000
namespace GK
open PySem PySem.Spec PyProof.Rows L2
theorem Owns.mk {H : Hp} {c : Cells} {x dx : Addr} {o u : HO} (h : Owns H c) (hx : H x = none) (hd : H dx = none) (ne : dx ≠ x) : Owns (upd (upd H dx u) x o) (cel x o + c) :=
  (h.skip hd).new (by rw [upd_ne ne.symm]; exact hx)
theorem dput_new {β : Type} {g g' : Int → β → V} {l : List (Int × β)} {H : Hp} {d : Addr} {k : Int} {b : β} {v : V} (h : H d = some (.dK (dk g l))) (hn : (look l k).isSome = false) (hl : l.length < LIM) (e : ∀ p ∈ l, g p.1 p.2 = g' p.1 p.2) (ev : v = g' k b) :
    DPut H d (.int k) v (upd H d (.dK (dk g' (l ++ [(k, b)])))) := by
  have q := DPut.k (k := Sum.inl k) (v := v) h (lt_lim (by rw [dk_length]; exact hl))
  have e0 : look l k = none := by
    cases z : look l k with
    | none => rfl
    | some _ => rw [z] at hn; cases hn
  rw [putK_new v (by rw [valV_dk, e0] <;> rfl), dk_congr e] at q
  have e1 : dk g' (l ++ [(k, b)]) = dk g' l ++ [(Sum.inl k, v)] := by
    unfold dk
    rw [List.map_append, ev]
    rfl
  rw [e1]
  exact q
theorem ne_key {β : Type} {l : List (Int × β)} {k : Int} (hn : (look l k).isSome = false) {p : Int × β} (hp : p ∈ l) : p.1 ≠ k := fun e => look_none_key hn (e ▸ List.mem_map.mpr ⟨p, hp, rfl⟩)
/-! ### how the dicts' laws keep -/
section
variable {L : BLay} {m : MBlocks}
theorem BOk.pg {pg : MPages} (ok : BOk L m) : BOk L { m with pg := pg } := ⟨ok.lb, ok.lr, ok.nb, ok.nr, ok.li⟩
theorem BOk.putRun {f : Int} {r r' : MRun} (ok : BOk L m) (h : look m.runs f = some r) : BOk L { m with runs := put m.runs f r' } := by
  refine ⟨ok.lb, by show (put _ _ _).length ≤ _; rw [put_length h]; exact ok.lr, ok.nb, by show ((put _ _ _).map _).Nodup; rw [put_keys h]; exact ok.nr, fun p hp g hg hl => ok.li p hp g hg ?_⟩
  have hl : (look (put m.runs f r') g).isSome = true := hl
  rw [look_put h] at hl
  by_cases q : g = f
  · rw [q, h]
    rfl
  · rw [if_neg q] at hl
    exact hl
theorem BOk.insRun {f : Int} {r : MRun} {x : RL} (ok : BOk L m) (hn : (look m.runs f).isSome = false) (hl : m.runs.length < LIM) (hb : (m.blocks.all fun b => decide (b.2.run ≠ some f)) = true) :
    BOk { L with rl := fun j => if j = f then x else L.rl j } { m with runs := m.runs ++ [(f, r)] } := by
  refine ⟨ok.lb, by show (m.runs ++ [(f, r)]).length ≤ _; rw [List.length_append]; exact hl, ok.nb, ins_nodup ok.nr hn, fun p hp g hg h => ?_⟩
  have ne : g ≠ f := fun e => by
    have := of_decide_eq_true (List.all_eq_true.mp hb p hp)
    exact this (e ▸ hg)
  have h : (look (m.runs ++ [(f, r)]) g).isSome = true := h
  rw [look_append] at h
  have e1 : look [(f, r)] g = none := look_cons_ne _ _ (fun e => ne e.symm)
  rw [e1, Option.or_none] at h
  show (L.bl p.1).r = (if g = f then x else L.rl g).a
  rw [if_neg ne]
  exact ok.li p hp g hg h
theorem BOk.insBlk {k : Int} {b : MBlock} {x : BL} (ok : BOk L m) (hn : (look m.blocks k).isSome = false) (hl : m.blocks.length < LIM) (hr : ∀ f, b.run = some f → x.r = (L.rl f).a) :
    BOk { L with bl := fun j => if j = k then x else L.bl j } { m with blocks := m.blocks ++ [(k, b)] } := by
  refine ⟨by show (m.blocks ++ [(k, b)]).length ≤ _; rw [List.length_append]; exact hl, ok.lr, ins_nodup ok.nb hn, ok.nr, fun p hp g hg h => ?_⟩
  show (if p.1 = k then x else L.bl p.1).r = (L.rl g).a
  rcases List.mem_append.mp hp with hp | hp
  · rw [if_neg (ne_key hn hp)]
    exact ok.li p hp g hg h
  · have e : p = (k, b) := by simpa using hp
    rw [e, if_pos rfl]
    rw [e] at hg
    exact hr g hg
theorem BOk.delBlk {k : Int} (ok : BOk L m) : BOk L { m with blocks := del m.blocks k } :=
  ⟨Nat.le_trans (del_length _ _) ok.lb, ok.lr, del_nodup ok.nb k, ok.nr, fun p hp g hg h => ok.li p (del_mem.mp hp).2 g hg h⟩
theorem BOk.delRun {f : Int} (ok : BOk L m) : BOk L { m with runs := del m.runs f } := by
  refine ⟨ok.lb, Nat.le_trans (del_length _ _) ok.lr, ok.nb, del_nodup ok.nr f, fun p hp g hg h => ok.li p hp g hg ?_⟩
  have h : (look (del m.runs f) g).isSome = true := h
  rw [look_del] at h
  by_cases q : g = f
  · rw [if_pos q] at h
    cases h
  · rw [if_neg q] at h
    exact h
end
section
variable {P : Program} {w : World} {K : PySem.W.Frag} {mg : Str → Option Value} {base : Heap}
def refR (L : BLay) : Option Int → V
  | none => .non
  | some f => .ref (L.rl f).a
def sp_Blocks_run_for (K : PySem.W.Frag) : Sp := fun vs H Q _ => ∃ (a b : Addr) (L : BLay) (m m' : MBlocks) (A A' : MAsks) (small : Int) (r : Option Int) (c d F : Cells), vs = [.ref a, .ref b, .int small] ∧ BlocksL K a L m c ∧ AsksAt K b A d ∧ Owns H (c + (d + F)) ∧ m.runFor A small = some (A', m', r) ∧
  ∀ H' L' c' d', BlocksL K a L' m' c' → AsksAt K b A' d' → Owns H' (c' + (d' + F)) → Q (refR L' r) H'
theorem sc_Blocks_run_for : FnScope ["self", "asks", "small", "some", "first"] ["self", "asks", "small"] (defScope s_Blocks_run_for) := ⟨rfl, rfl, rfl, by decide +kernel, rfl, by decide +kernel, by decide +kernel⟩
theorem ok_Blocks_run_for (T : Env K mg) : DOk P w K mg base 6 ("Blocks", some "run_for") ["self", "asks", "small"] (sp_Blocks_run_for K) := by
  obtain ⟨fd, F⟩ := T.d_Blocks_run_for
  refine ⟨fd, F.ok sc_Blocks_run_for (fun vs H Q E h => ?_) (fun cdv A outer s H vs Q E hr h => ?_), F.bindsN fun _ _ _ _ _ _ us hl => match us, hl with | [_, _, _], _ => rfl, F.kp⟩
  · obtain ⟨a, b, L, m, m', A0, A', small, r, c, d, F, rfl, ⟨ok, cp, hP, rfl⟩, hA, hO, hm, k⟩ := h
    rfl
  · obtain ⟨a, b, L, m, m', A0, A', small, r, c, d, F, rfl, ⟨ok, cp, hP, rfl⟩, hA, hO, hm, k⟩ := h
    refine ⟨_, PSs.nox (pss_cons (ps_set (i := 3) sc_Blocks_run_for.nd rfl (Or.inl rfl) (pmt (K := K) rfl (pv 0) T.c_Blocks T.m_Blocks_runs_with_room (ok_Blocks_runs_with_room T) (hr.mono (by decide)) (pa_cons (pv 2) pa_nil)))
      (pss_cons (ps_if (pt_cmpR op_gt (pe_callB call_len_seq (by rfl) T.f_len PySem.boot_len (pa_cons (pv 3) pa_nil)) pe_int (nomark _))
        (pss_one (ps_ret (pe_ix (kix (K := K) rfl) (pv 3) pe_int (fun _ _ => rfl))))
        pss_nil)
      (pss_cons (ps_set (i := 4) sc_Blocks_run_for.nd rfl (Or.inl rfl) (pmt (K := K) rfl (kfld (K := K) rfl (pv 0) rfl) T.c_Pages T.m_Pages_take (ok_Pages_take T) (hr.mono (by decide)) (pa_cons (pv 1) (pa_cons (pcl (K := K) rfl T.g_run_pages (ok_run_pages T) (hr.mono (by decide)) (pa_cons (pv 2) pa_nil)) pa_nil))))
      (pss_cons (ps_if (pt_cmpR op_isN (pv 4) pe_non (nomark _))
        (pss_one (ps_ret pe_non))
        pss_nil)
      (pss_cons (ps_dput (hu_of hr) (kfld (K := K) rfl (pv 0) rfl) (pv 4) (pmk (K := K) rfl T.k_Run T.g_Run (ok_Run_init T) (hr.mono (by decide)) (pa_cons (pv 4) (pa_cons (pv 2) pa_nil))) rfl)
      (pss_one (ps_ret (pe_dget (hu_of hr) (kfld (K := K) rfl (pv 0) rfl) (pv 4) (fun _ _ => rfl))))))))), ?_⟩
    have hO' := hO
    unfold blocksC at hO'
    -- some = self.runs_with_room(small)
    refine ⟨_, rfl, _, _, _, rfl, hO'.rd a, lkn nx_Blocks_runs_with_room _, _, rfl, a, L, m, small, cp + (d + F), rfl, ok, hO.to (by ac_rfl), fun H1 p h1 => ?_⟩
    refine ⟨_, rfl, _, _, rfl, .inl (SqL.of h1.get), _, _, rfl, rfl, _, rfl, ?_⟩
    unfold MBlocks.runFor at hm
    cases hw : runsWithRoom m.runs small with
    | cons f fs =>
      rw [hw] at hm h1
      cases hm
      refine iteYd (by show (0 : Int) < ((fs.map _).length + 1 : Nat); omega) ?_
      exact ⟨_, rfl, p, _, 0, V.ref (L.rl f).a, rfl, rfl, SqL.of h1.get, at_of (j := 0) rfl rfl, k _ L _ _ ⟨ok, cp, hP, rfl⟩ hA (h1.r.to (by ac_rfl))⟩
    | nil =>
      rw [hw] at hm h1
      obtain ⟨pg, hpg, hm⟩ := Option.bind_eq_some_iff.mp hm
      obtain ⟨⟨A1, m1, fo⟩, hm1, hm⟩ := Option.bind_eq_some_iff.mp hm
      refine iteN rfl ?_
      have h2 := h1.r
      have h2' := h2
      unfold blocksC at h2'
      obtain ⟨hz, dxp, mk, rn, ecp⟩ := id hP
      have h2p := h2'
      rw [ecp] at h2p
      -- first = self.pages.take(asks, run_pages(small))
      refine ⟨_, rfl, _, _, _, _, _, rfl, h2'.rd a, T.c_Blocks, T.n_Blocks_pages, lkz ix_Blocks_pages _, _, _, _, rfl, h2p.rd L.pa, lkn nx_Pages_take _, _, rfl, _, rfl, small, pg, rfl, hpg, L.pa, b, m.pg, m1, A0, A1, pg, fo, cp, d, blocksC K a L m + F, rfl, hP, hA, h2.to (by ac_rfl), hm1, fun H3 c3 d3 hP3 hA3 h3 => ?_⟩
      cases fo with
      | none =>
        cases hm
        exact ⟨_, rfl, rfl, _, rfl, iteY rfl (k _ L _ _ ⟨ok.pg, c3, hP3, rfl⟩ hA3 (h3.to (by
          show _ = blocksC K a L m + c3 + _
          ac_rfl)))⟩
      | some f =>
        obtain ⟨rr, hrr, hm⟩ := Option.bind_eq_some_iff.mp hm
        split at hm
        case isFalse => cases hm
        rename_i hb
        obtain ⟨hb1, hb2, hb3⟩ := hb
        cases hm
        refine ⟨_, rfl, rfl, _, rfl, iteN rfl ?_⟩
        -- self.runs[first] = Run(first, small)
        refine ⟨_, rfl, _, rfl, fun x dx hx hdx ne => ?_⟩
        have h4 := h3.mk (u := .own x) (o := .ins (He.ga K "Run") dx []) hx hdx ne
        refine ⟨x, dx, f, small, rr, _, rfl, h4, hrr, fun H5 ul h5 => ⟨rfl, ?_⟩⟩
        have h5' := h5
        unfold blocksC at h5'
        refine ⟨_, rfl, _, _, _, _, _, rfl, h5'.rd a, T.c_Blocks, T.n_Blocks_runs, lkz ix_Blocks_runs _, _, rfl, L.rd, _, rfl, dput_new (g := gR L) (g' := gR { L with rl := fun j => if j = f then ⟨x, dx, ul⟩ else L.rl j }) (b := rr) (h5'.rd L.rd) hb2 hb1 (fun p hp => by
          show V.ref _ = V.ref (if p.1 = f then (⟨x, dx, ul⟩ : RL) else L.rl p.1).a
          rw [if_neg (ne_key hb2 hp)]) (by
          show V.ref x = V.ref (if f = f then (⟨x, dx, ul⟩ : RL) else L.rl f).a
          rw [if_pos rfl]), ?_⟩
        have h6 := h5'.up L.rd (.dK (dk (gR { L with rl := fun j => if j = f then ⟨x, dx, ul⟩ else L.rl j }) (m.runs ++ [(f, rr)])))
        have el : look (m.runs ++ [(f, rr)]) f = some rr := by
          rw [look_append, key_none_look (look_none_key hb2), Option.none_or]
          exact look_cons_eq _ _ rfl
        refine ⟨_, rfl, _, _, _, _, _, rfl, h6.rd a, T.c_Blocks, T.n_Blocks_runs, lkz ix_Blocks_runs _, _, rfl, L.rd, _, rfl, dget (g := gR { L with rl := fun j => if j = f then ⟨x, dx, ul⟩ else L.rl j }) (h6.rd L.rd) el, ?_⟩
        refine k _ { L with rl := fun j => if j = f then ⟨x, dx, ul⟩ else L.rl j } _ _ ⟨(ok.pg (pg := m1)).insRun hb2 hb1 hb3, c3, hP3, rfl⟩ hA3 (h6.to ?_)
        unfold blocksC
        rw [show sumC (runC K { L with rl := fun j => if j = f then ⟨x, dx, ul⟩ else L.rl j }) (m.runs ++ [(f, rr)]) = sumC (runC K L) m.runs + (cel x (oRun K dx ul rr) + cel ul (.lst (rr.used.map V.bl))) by
          rw [sum_ins]
          congr 1
          · refine sumC_congr fun p hp => ?_
            unfold runC
            show cel (if p.1 = f then (⟨x, dx, ul⟩ : RL) else L.rl p.1).a (oRun K (if p.1 = f then (⟨x, dx, ul⟩ : RL) else L.rl p.1).dx (if p.1 = f then (⟨x, dx, ul⟩ : RL) else L.rl p.1).u p.2) + cel (if p.1 = f then (⟨x, dx, ul⟩ : RL) else L.rl p.1).u _ = _
            rw [if_neg (ne_key hb2 hp)]
          · unfold runC
            show cel (if f = f then (⟨x, dx, ul⟩ : RL) else L.rl f).a (oRun K (if f = f then (⟨x, dx, ul⟩ : RL) else L.rl f).dx (if f = f then (⟨x, dx, ul⟩ : RL) else L.rl f).u rr) + cel (if f = f then (⟨x, dx, ul⟩ : RL) else L.rl f).u _ = _
            rw [if_pos rfl]]
        show _ = cel a (oBlocks K L) + (cel L.bd (.dK (dk (gB L) m.blocks)) + (cel L.rd (.dK (dk (gR { L with rl := fun j => if j = f then ⟨x, dx, ul⟩ else L.rl j }) (m.runs ++ [(f, rr)]))) + (sumC (blkC K L) m.blocks + (sumC (runC K L) m.runs + (cel x (oRun K dx ul rr) + cel ul (.lst (rr.used.map V.bl))))))) + c3 + (d3 + F)
        ac_rfl
end
end GK
end
section
set_option Elab.async false
set_option linter.all false
set_option maxRecDepth 100000
set_option maxHeartbeats 4000000
namespace GK
open PySem PySem.Spec PyProof.Rows L2
theorem runC_bl (K : PySem.W.Frag) (L : BLay) (bl : Int → BL) : runC K { L with bl := bl } = runC K L := rfl
theorem blkC_new {K : PySem.W.Frag} {L : BLay} {k : Int} {x : BL} {l : List (Int × MBlock)} {b : MBlock} (hn : (look l k).isSome = false) :
    sumC (blkC K { L with bl := fun j => if j = k then x else L.bl j }) (l ++ [(k, b)]) = sumC (blkC K L) l + cel x.a (oBlock K x.dx b.size (runV b x.r)) := by
  rw [sum_ins]
  congr 1
  · refine sumC_congr fun p hp => ?_
    unfold blkC
    show cel (if p.1 = k then x else L.bl p.1).a (oBlock K (if p.1 = k then x else L.bl p.1).dx p.2.size (runV p.2 (if p.1 = k then x else L.bl p.1).r)) = _
    rw [if_neg (ne_key hn hp)]
  · unfold blkC
    show cel (if k = k then x else L.bl k).a (oBlock K (if k = k then x else L.bl k).dx b.size (runV b (if k = k then x else L.bl k).r)) = _
    rw [if_pos rfl]
theorem gB_new {L : BLay} {k : Int} {x : BL} {l : List (Int × MBlock)} (hn : (look l k).isSome = false) : ∀ p ∈ l, gB L p.1 p.2 = gB { L with bl := fun j => if j = k then x else L.bl j } p.1 p.2 := fun p hp => by
  show V.ref _ = V.ref (if p.1 = k then x else L.bl p.1).a
  rw [if_neg (ne_key hn hp)]
theorem gB_self {L : BLay} {k : Int} {x : BL} {b : MBlock} : V.ref x.a = gB { L with bl := fun j => if j = k then x else L.bl j } k b := by
  show V.ref x.a = V.ref (if k = k then x else L.bl k).a
  rw [if_pos rfl]
section
variable {P : Program} {w : World} {K : PySem.W.Frag} {mg : Str → Option Value} {base : Heap}
def sp_Blocks_take_small (K : PySem.W.Frag) : Sp := fun vs H Q _ => ∃ (a b : Addr) (L : BLay) (m m' : MBlocks) (A A' : MAsks) (size small : Int) (r : Option Int) (c d F : Cells), vs = [.ref a, .ref b, .int size, .int small] ∧ BlocksL K a L m c ∧ AsksAt K b A d ∧ Owns H (c + (d + F)) ∧ m.takeSmall A size small = some (A', m', r) ∧
  ∀ H' L' c' d', BlocksL K a L' m' c' → AsksAt K b A' d' → Owns H' (c' + (d' + F)) → Q (optV r) H'
theorem sc_Blocks_take_small : FnScope ["self", "asks", "size", "small", "run", "k"] ["self", "asks", "size", "small"] (defScope s_Blocks_take_small) := ⟨rfl, rfl, rfl, by decide +kernel, rfl, by decide +kernel, by decide +kernel⟩
theorem ok_Blocks_take_small (T : Env K mg) : DOk P w K mg base 7 ("Blocks", some "take_small") ["self", "asks", "size", "small"] (sp_Blocks_take_small K) := by
  obtain ⟨fd, F⟩ := T.d_Blocks_take_small
  refine ⟨fd, F.ok sc_Blocks_take_small (fun vs H Q E h => ?_) (fun cdv A outer s H vs Q E hr h => ?_), F.bindsN fun _ _ _ _ _ _ us hl => match us, hl with | [_, _, _, _], _ => rfl, F.kp⟩
  · obtain ⟨a, b, L, m, m', A0, A', size, small, r, c, d, F, rfl, hB, hA, hO, hm, k⟩ := h
    rfl
  · obtain ⟨a, b, L, m, m', A0, A', size, small, r, c, d, F, rfl, hB, hA, hO, hm, k⟩ := h
    refine ⟨_, PSs.nox (pss_cons (ps_set (i := 4) sc_Blocks_take_small.nd rfl (Or.inl rfl) (pmt (K := K) rfl (pv 0) T.c_Blocks T.m_Blocks_run_for (ok_Blocks_run_for T) (hr.mono (by decide)) (pa_cons (pv 1) (pa_cons (pv 3) pa_nil))))
      (pss_cons (ps_if (pt_cmpR op_isN (pv 4) pe_non (nomark _))
        (pss_one (ps_ret pe_non))
        pss_nil)
      (pss_cons (ps_set (i := 5) sc_Blocks_take_small.nd rfl (Or.inl rfl) (pe_bm PySem.F.plainAttrs_list PySem.F.slot_list_index PySem.F.type_list_index mt_index (kfld (K := K) rfl (pv 4) rfl) (pa_cons pe_bl pa_nil)))
      (pss_cons (ps_asg pe_bl (pg_sub (kfld (K := K) rfl (pv 4) rfl) (pv 5) set_list))
      (pss_cons (ps_dput (hu_of hr) (kfld (K := K) rfl (pv 0) rfl) (pmt (K := K) rfl (pv 4) T.c_Run T.m_Run_place_at (ok_Run_place_at T) (hr.mono (by decide)) (pa_cons (pv 5) pa_nil)) (pmk (K := K) rfl T.k_Block T.g_Block (ok_Block_init T) (hr.mono (by decide)) (pa_cons (pv 2) (pa_cons (pv 4) pa_nil))) rfl)
      (pss_one (ps_ret (pmt (K := K) rfl (pv 4) T.c_Run T.m_Run_place_at (ok_Run_place_at T) (hr.mono (by decide)) (pa_cons (pv 5) pa_nil))))))))), ?_⟩
    obtain ⟨⟨A1, m1, fo⟩, hm1, hm⟩ := Option.bind_eq_some_iff.mp hm
    obtain ⟨ok, cp, hP, ec⟩ := id hB
    have hO' := hO
    rw [ec] at hO'
    unfold blocksC at hO'
    -- run = self.run_for(asks, small)
    refine ⟨_, rfl, _, _, _, rfl, hO'.rd a, lkn nx_Blocks_run_for _, _, rfl, _, rfl, a, b, L, m, m1, A0, A1, small, fo, c, d, F, rfl, hB, hA, hO, hm1, fun H1 L1 c1 d1 hB1 hA1 h1 => ?_⟩
    cases fo with
    | none =>
      cases hm
      exact ⟨_, rfl, rfl, _, rfl, iteY rfl (k _ _ _ _ hB1 hA1 h1)⟩
    | some f =>
      obtain ⟨rr, hrr, hm⟩ := Option.bind_eq_some_iff.mp hm
      obtain ⟨j, hj, hm⟩ := Option.bind_eq_some_iff.mp hm
      split at hm
      case isFalse => cases hm
      rename_i hb
      obtain ⟨hb1, hb2, hb3, hb4⟩ := hb
      have hm : some (A1, ({ m1 with runs := put m1.runs f { rr with used := rr.used.set j true }, blocks := m1.blocks ++ [(rr.placeAt (j : Int), ⟨size, some f⟩)] } : MBlocks), some (rr.placeAt (j : Int))) = some (A', m', r) := hm
      cases hm
      refine ⟨_, rfl, rfl, _, rfl, iteN rfl ?_⟩
      obtain ⟨ok1, cp1, hP1, rfl⟩ := hB1
      obtain ⟨s1, s2⟩ := sum_at (f := runC K L1) ok1.nr hrr
      have h2 := h1
      unfold blocksC at h2
      rw [s1] at h2
      unfold runC at h2
      -- k = run.used.index(False)
      obtain ⟨hj1, hj2, hj3⟩ := List.findIdx?_eq_some_iff_getElem.mp hj
      have uj : rr.used[j]'hj1 = false := by simpa using hj2
      refine ⟨_, rfl, _, _, _, _, _, rfl, h2.rd (L1.rl f).a, T.c_Run, T.n_Run_used, lkz ix_Run_used _, .inl ⟨rfl, _, SqL.of (h2.rd (L1.rl f).u)⟩, (L1.rl f).u, _, .bl false, j, .bl false, rfl, rfl, SqL.of (h2.rd (L1.rl f).u), rfl, flat_bls _, by rw [List.getElem?_map, List.getElem?_eq_getElem hj1, uj] <;> rfl, rfl, fun n z hn hz => ?_, ?_⟩
      · rw [List.getElem?_map] at hz
        obtain ⟨bz, z1, rfl⟩ := Option.map_eq_some_iff.mp hz
        obtain ⟨z2, z3⟩ := List.getElem?_eq_some_iff.mp z1
        have := hj3 n hn
        have e : bz = true := by rw [← z3]; simpa using this
        rw [e]
        rfl
      -- run.used[k] = True
      refine ⟨_, rfl, _, _, _, _, _, rfl, h2.rd (L1.rl f).a, T.c_Run, T.n_Run_used, lkz ix_Run_used _, _, rfl, (L1.rl f).u, _, _, j, rfl, rfl, h2.rd (L1.rl f).u, ixN_nat rfl (by rw [List.length_map]; exact hj1), ?_⟩
      have h3 := h2.up (L1.rl f).u (.lst ((rr.used.map V.bl).set j (V.bl true)))
      have e3 : (rr.used.map V.bl).set j (V.bl true) = (rr.used.set j true).map V.bl := by rw [List.map_set]
      -- Block(size, run)
      refine ⟨_, rfl, _, rfl, fun x dx hx hdx ne => ?_⟩
      have h4 := h3.mk (u := .own x) (o := .ins (He.ga K "Block") dx []) hx hdx ne
      refine ⟨x, dx, size, .ref (L1.rl f).a, _, rfl, h4, fun H5 h5 => ⟨rfl, ?_⟩⟩
      -- self.blocks[run.place_at(k)] = ..
      refine ⟨_, rfl, _, _, _, _, _, rfl, h5.rd a, T.c_Blocks, T.n_Blocks_blocks, lkz ix_Blocks_blocks _, _, rfl, _, _, _, rfl, h5.rd (L1.rl f).a, lkn nx_Run_place_at _, _, rfl, (L1.rl f).a, _, _, rr, j, rfl, h5.rd (L1.rl f).a, hb3, hb4, ?_⟩
      refine ⟨L1.bd, _, rfl, dput_new (g := gB L1) (g' := gB { L1 with bl := fun i => if i = rr.placeAt (j : Int) then ⟨x, dx, (L1.rl f).a⟩ else L1.bl i }) (b := ⟨size, some f⟩) (h5.rd L1.bd) hb2 hb1 (gB_new hb2) (gB_self (x := ⟨x, dx, (L1.rl f).a⟩)), ?_⟩
      have h6 := h5.up L1.bd (.dK (dk (gB { L1 with bl := fun i => if i = rr.placeAt (j : Int) then ⟨x, dx, (L1.rl f).a⟩ else L1.bl i }) (m1.blocks ++ [(rr.placeAt (j : Int), ⟨size, some f⟩)])))
      -- return run.place_at(k)
      refine ⟨_, rfl, _, _, _, rfl, h6.rd (L1.rl f).a, lkn nx_Run_place_at _, _, rfl, (L1.rl f).a, _, _, rr, j, rfl, h6.rd (L1.rl f).a, hb3, hb4, ?_⟩
      refine k _ { L1 with bl := fun i => if i = rr.placeAt (j : Int) then ⟨x, dx, (L1.rl f).a⟩ else L1.bl i } _ _ ⟨(ok1.putRun hrr).insBlk hb2 hb1 (fun g hg => by cases hg; rfl), cp1, hP1, rfl⟩ hA1 (h6.to ?_)
      unfold blocksC
      rw [blkC_new hb2, runC_bl, s2, e3]
      unfold runC
      rw [dk_keys (g := fun k => V.ref (L1.rl k).a) (put_keys (v' := { rr with used := rr.used.set j true }) hrr)]
      show _ = cel a (oBlocks K L1) + (cel L1.bd (.dK (dk (gB { L1 with bl := fun i => if i = rr.placeAt (j : Int) then ⟨x, dx, (L1.rl f).a⟩ else L1.bl i }) (m1.blocks ++ [(rr.placeAt (j : Int), ⟨size, some f⟩)]))) + (cel L1.rd (.dK (dk (gR L1) m1.runs)) +
        (sumC (blkC K L1) m1.blocks + cel x (oBlock K dx size (.ref (L1.rl f).a)) + (cel (L1.rl f).a (oRun K (L1.rl f).dx (L1.rl f).u rr) + cel (L1.rl f).u (.lst ((rr.used.set j true).map V.bl)) + sumC (runC K L1) (del m1.runs f))))) + cp1 + (d1 + F)
      unfold runC
      ac_rfl
def sp_Blocks_take_great (K : PySem.W.Frag) : Sp := fun vs H Q _ => ∃ (a b : Addr) (L : BLay) (m m' : MBlocks) (A A' : MAsks) (size : Int) (r : Option Int) (c d F : Cells), vs = [.ref a, .ref b, .int size] ∧ BlocksL K a L m c ∧ AsksAt K b A d ∧ Owns H (c + (d + F)) ∧ m.takeGreat A size = some (A', m', r) ∧
  ∀ H' L' c' d', BlocksL K a L' m' c' → AsksAt K b A' d' → Owns H' (c' + (d' + F)) → Q (optV r) H'
theorem sc_Blocks_take_great : FnScope ["self", "asks", "size", "first"] ["self", "asks", "size"] (defScope s_Blocks_take_great) := ⟨rfl, rfl, rfl, by decide +kernel, rfl, by decide +kernel, by decide +kernel⟩
theorem ok_Blocks_take_great (T : Env K mg) : DOk P w K mg base 6 ("Blocks", some "take_great") ["self", "asks", "size"] (sp_Blocks_take_great K) := by
  obtain ⟨fd, F⟩ := T.d_Blocks_take_great
  refine ⟨fd, F.ok sc_Blocks_take_great (fun vs H Q E h => ?_) (fun cdv A outer s H vs Q E hr h => ?_), F.bindsN fun _ _ _ _ _ _ us hl => match us, hl with | [_, _, _], _ => rfl, F.kp⟩
  · obtain ⟨a, b, L, m, m', A0, A', size, r, c, d, F, rfl, ⟨ok, cp, hP, rfl⟩, hA, hO, hm, k⟩ := h
    rfl
  · obtain ⟨a, b, L, m, m', A0, A', size, r, c, d, F, rfl, ⟨ok, cp, hP, rfl⟩, hA, hO, hm, k⟩ := h
    refine ⟨_, PSs.nox (pss_cons (ps_set (i := 3) sc_Blocks_take_great.nd rfl (Or.inl rfl) (pmt (K := K) rfl (kfld (K := K) rfl (pv 0) rfl) T.c_Pages T.m_Pages_take (ok_Pages_take T) (hr.mono (by decide)) (pa_cons (pv 1) (pa_cons (pcl (K := K) rfl T.g_pages_of (ok_pages_of T) (hr.mono (by decide)) (pa_cons (pv 2) pa_nil)) pa_nil))))
      (pss_cons (ps_if (pt_cmpR op_isN (pv 3) pe_non (nomark _))
        (pss_one (ps_ret pe_non))
        pss_nil)
      (pss_cons (ps_dput (hu_of hr) (kfld (K := K) rfl (pv 0) rfl) (pe_op op_mul (pv 3) (pe_gi T.i_PAGE)) (pmk (K := K) rfl T.k_Block T.g_Block (ok_Block_init T) (hr.mono (by decide)) (pa_cons (pv 2) (pa_cons pe_non pa_nil))) rfl)
      (pss_one (ps_ret (pe_op op_mul (pv 3) (pe_gi T.i_PAGE))))))), ?_⟩
    obtain ⟨⟨A1, m1, fo⟩, hm1, hm⟩ := Option.bind_eq_some_iff.mp hm
    have h2' := hO
    unfold blocksC at h2'
    obtain ⟨hz, dxp, mk, rn, ecp⟩ := id hP
    have h2p := h2'
    rw [ecp] at h2p
    refine ⟨_, rfl, _, _, _, _, _, rfl, h2'.rd a, T.c_Blocks, T.n_Blocks_pages, lkz ix_Blocks_pages _, _, _, _, rfl, h2p.rd L.pa, lkn nx_Pages_take _, _, rfl, _, rfl, size, rfl, L.pa, b, m.pg, m1, A0, A1, _, fo, cp, d, blocksC K a L m + F, rfl, hP, hA, hO.to (by ac_rfl), hm1, fun H3 c3 d3 hP3 hA3 h3 => ?_⟩
    cases fo with
    | none =>
      cases hm
      exact ⟨_, rfl, rfl, _, rfl, iteY rfl (k _ L _ _ ⟨ok.pg, c3, hP3, rfl⟩ hA3 (h3.to (by
        show _ = blocksC K a L m + c3 + _
        ac_rfl)))⟩
    | some f =>
      have hm : (if m.blocks.length < LIM ∧ (look m.blocks (f * 4096)).isSome = false then some (A1, ({ m with pg := m1, blocks := m.blocks ++ [(f * 4096, ⟨size, none⟩)] } : MBlocks), some (f * 4096)) else none) = some (A', m', r) := hm
      split at hm
      case isFalse => cases hm
      rename_i hb
      obtain ⟨hb1, hb2⟩ := hb
      have hm : some (A1, ({ m with pg := m1, blocks := m.blocks ++ [(f * 4096, ⟨size, none⟩)] } : MBlocks), some (f * 4096)) = some (A', m', r) := hm
      cases hm
      refine ⟨_, rfl, rfl, _, rfl, iteN rfl ?_⟩
      -- Block(size, None)
      refine ⟨_, rfl, fun x dx hx hdx ne => ?_⟩
      have h4 := h3.mk (u := .own x) (o := .ins (He.ga K "Block") dx []) hx hdx ne
      refine ⟨x, dx, size, .non, _, rfl, h4, fun H5 h5 => ⟨rfl, ?_⟩⟩
      have h5' := h5
      unfold blocksC at h5'
      -- self.blocks[first * PAGE] = ..
      refine ⟨_, rfl, _, _, _, _, _, rfl, h5'.rd a, T.c_Blocks, T.n_Blocks_blocks, lkz ix_Blocks_blocks _, _, rfl, _, _, rfl, rfl, .inr ⟨by decide, by decide⟩, L.bd, _, rfl, dput_new (g := gB L) (g' := gB { L with bl := fun i => if i = f * 4096 then ⟨x, dx, 0⟩ else L.bl i }) (b := ⟨size, none⟩) (h5'.rd L.bd) hb2 hb1 (gB_new hb2) (gB_self (x := ⟨x, dx, 0⟩)), ?_⟩
      have h6 := h5'.up L.bd (.dK (dk (gB { L with bl := fun i => if i = f * 4096 then ⟨x, dx, 0⟩ else L.bl i }) (m.blocks ++ [(f * 4096, ⟨size, none⟩)])))
      refine ⟨_, rfl, _, _, rfl, rfl, .inr ⟨by decide, by decide⟩, ?_⟩
      refine k _ { L with bl := fun i => if i = f * 4096 then ⟨x, dx, 0⟩ else L.bl i } _ _ ⟨(ok.pg (pg := m1)).insBlk hb2 hb1 (fun g hg => by cases hg), c3, hP3, rfl⟩ hA3 (h6.to ?_)
      unfold blocksC
      rw [blkC_new hb2, runC_bl]
      show _ = cel a (oBlocks K L) + (cel L.bd (.dK (dk (gB { L with bl := fun i => if i = f * 4096 then ⟨x, dx, 0⟩ else L.bl i }) (m.blocks ++ [(f * 4096, ⟨size, none⟩)]))) + (cel L.rd (.dK (dk (gR L) m.runs)) +
        (sumC (blkC K L) m.blocks + cel x (oBlock K dx size .non) + sumC (runC K L) m.runs))) + c3 + (d3 + F)
      ac_rfl
def sp_Blocks_take (K : PySem.W.Frag) : Sp := fun vs H Q _ => ∃ (a b : Addr) (L : BLay) (m m' : MBlocks) (A A' : MAsks) (size : Int) (e : Nat) (r : Option Int) (c d F : Cells), vs = [.ref a, .ref b, .int size, .int (2 ^ e)] ∧ BlocksL K a L m c ∧ AsksAt K b A d ∧ Owns H (c + (d + F)) ∧ m.take A size (2 ^ e) = some (A', m', r) ∧
  ∀ H' L' c' d', BlocksL K a L' m' c' → AsksAt K b A' d' → Owns H' (c' + (d' + F)) → Q (optV r) H'
theorem sc_Blocks_take : FnScope ["self", "asks", "size", "multiple", "small"] ["self", "asks", "size", "multiple"] (defScope s_Blocks_take) := ⟨rfl, rfl, rfl, by decide +kernel, rfl, by decide +kernel, by decide +kernel⟩
theorem ok_Blocks_take (T : Env K mg) : DOk P w K mg base 8 ("Blocks", some "take") ["self", "asks", "size", "multiple"] (sp_Blocks_take K) := by
  obtain ⟨fd, F⟩ := T.d_Blocks_take
  refine ⟨fd, F.ok sc_Blocks_take (fun vs H Q E h => ?_) (fun cdv A outer s H vs Q E hr h => ?_), F.bindsN fun _ _ _ _ _ _ us hl => match us, hl with | [_, _, _, _], _ => rfl, F.kp⟩
  · obtain ⟨a, b, L, m, m', A0, A', size, e, r, c, d, F, rfl, hB, hA, hO, hm, k⟩ := h
    rfl
  · obtain ⟨a, b, L, m, m', A0, A', size, e, r, c, d, F, rfl, hB, hA, hO, hm, k⟩ := h
    refine ⟨_, PSs.nox (pss_cons (ps_set (i := 4) sc_Blocks_take.nd rfl (Or.inl rfl) (pcl (K := K) rfl T.g_size_for (ok_size_for T) (hr.mono (by decide)) (pa_cons (pv 2) (pa_cons (pv 3) pa_nil))))
      (pss_cons (ps_if (pt_cmpR op_isN (pv 4) pe_non (nomark _))
        (pss_one (ps_ret (pmt (K := K) rfl (pv 0) T.c_Blocks T.m_Blocks_take_great (ok_Blocks_take_great T) (hr.mono (by decide)) (pa_cons (pv 1) (pa_cons (pv 2) pa_nil)))))
        pss_nil)
      (pss_one (ps_ret (pmt (K := K) rfl (pv 0) T.c_Blocks T.m_Blocks_take_small (ok_Blocks_take_small T) (hr.mono (by decide)) (pa_cons (pv 1) (pa_cons (pv 2) (pa_cons (pv 4) pa_nil)))))))), ?_⟩
    refine ⟨_, rfl, _, rfl, size, e, _, rfl, hO, fun H1 h1 => ?_⟩
    obtain ⟨ok, cp, hP, ec⟩ := id hB
    have h1' := h1
    rw [ec] at h1'
    unfold blocksC at h1'
    unfold MBlocks.take at hm
    cases hz : sizeFor size (2 ^ e) with
    | none =>
      rw [hz] at hm
      refine ⟨_, rfl, rfl, _, rfl, iteY rfl ?_⟩
      exact ⟨_, rfl, _, _, _, rfl, h1'.rd a, lkn nx_Blocks_take_great _, _, rfl, _, rfl, a, b, L, m, m', A0, A', size, r, c, d, F, rfl, hB, hA, h1, hm, k⟩
    | some z =>
      rw [hz] at hm
      refine ⟨_, rfl, rfl, _, rfl, iteN rfl ?_⟩
      exact ⟨_, rfl, _, _, _, rfl, h1'.rd a, lkn nx_Blocks_take_small _, _, rfl, _, rfl, _, rfl, a, b, L, m, m', A0, A', size, z, r, c, d, F, rfl, hB, hA, h1, hm, k⟩
def sp_Blocks_give (K : PySem.W.Frag) : Sp := fun vs H Q _ => ∃ (a b : Addr) (L : BLay) (m m' : MBlocks) (A A' : MAsks) (place : Int) (c d F : Cells), vs = [.ref a, .ref b, .int place] ∧ BlocksL K a L m c ∧ AsksAt K b A d ∧ Owns H (c + (d + F)) ∧ m.give A place = some (A', m') ∧
  ∀ H' L' c' d', BlocksL K a L' m' c' → AsksAt K b A' d' → Owns H' (c' + (d' + F)) → Q .non H'
theorem sc_Blocks_give : FnScope ["self", "asks", "place", "run"] ["self", "asks", "place"] (defScope s_Blocks_give) := ⟨rfl, rfl, rfl, by decide +kernel, rfl, by decide +kernel, by decide +kernel⟩
theorem ok_Blocks_give (T : Env K mg) : DOk P w K mg base 5 ("Blocks", some "give") ["self", "asks", "place"] (sp_Blocks_give K) := by
  obtain ⟨fd, F⟩ := T.d_Blocks_give
  refine ⟨fd, F.ok sc_Blocks_give (fun vs H Q E h => ?_) (fun cdv A outer s H vs Q E hr h => ?_), F.bindsN fun _ _ _ _ _ _ us hl => match us, hl with | [_, _, _], _ => rfl, F.kp⟩
  · obtain ⟨a, b, L, m, m', A0, A', place, c, d, F, rfl, ⟨ok, cp, hP, rfl⟩, hA, hO, hm, k⟩ := h
    rfl
  · obtain ⟨a, b, L, m, m', A0, A', place, c, d, F, rfl, ⟨ok, cp, hP, rfl⟩, hA, hO, hm, k⟩ := h
    refine ⟨_, PSs.nox (pss_cons (ps_set (i := 3) sc_Blocks_give.nd rfl (Or.inl rfl) (kfld (K := K) rfl (pe_dpop1 (kfld (K := K) rfl (pv 0) rfl) (pv 2) ⟨rfl, rfl, rfl, rfl⟩) rfl))
      (pss_cons (ps_if (pt_cmpR op_isN (pv 3) pe_non (nomark _))
        (pss_cons (ps_expr (pmt (K := K) rfl (kfld (K := K) rfl (pv 0) rfl) T.c_Pages T.m_Pages_give (ok_Pages_give T) (hr.mono (by decide)) (pa_cons (pv 1) (pa_cons (pe_op op_fdivN (pv 2) (pe_gi T.i_PAGE)) pa_nil))))
      (pss_one ps_retN))
        pss_nil)
      (pss_cons (ps_asg pe_bl (pg_sub (kfld (K := K) rfl (pv 3) rfl) (pmt (K := K) rfl (pv 3) T.c_Run T.m_Run_number_at (ok_Run_number_at T) (hr.mono (by decide)) (pa_cons (pv 2) pa_nil)) set_list))
      (pss_one (ps_if (PW.pt (pw_and (pt_val (pmt0 (K := K) rfl (pv 3) T.c_Run T.m_Run_is_empty (ok_Run_is_empty T) (hr.mono (by decide)))) (pw_and1 (pt_cmpR op_gt (pe_callB call_len_seq (by rfl) T.f_len PySem.boot_len (pa_cons (pmt (K := K) rfl (pv 0) T.c_Blocks T.m_Blocks_runs_with_room (ok_Blocks_runs_with_room T) (hr.mono (by decide)) (pa_cons (kfld (K := K) rfl (pv 3) rfl) pa_nil)) pa_nil)) pe_int (nomark _)))))
        (pss_cons (ps_expr (pe_dpop1 (kfld (K := K) rfl (pv 0) rfl) (kfld (K := K) rfl (pv 3) rfl) ⟨rfl, rfl, rfl, rfl⟩))
      (pss_one (ps_expr (pmt (K := K) rfl (kfld (K := K) rfl (pv 0) rfl) T.c_Pages T.m_Pages_give (ok_Pages_give T) (hr.mono (by decide)) (pa_cons (pv 1) (pa_cons (kfld (K := K) rfl (pv 3) rfl) pa_nil))))))
        pss_nil))))), ?_⟩
    obtain ⟨bk, hbk, hm⟩ := Option.bind_eq_some_iff.mp hm
    obtain ⟨s1, _⟩ := sum_at (f := blkC K L) ok.nb hbk
    have h1 := hO
    unfold blocksC at h1
    rw [s1] at h1
    unfold blkC at h1
    -- run = self.blocks.pop(place).run
    refine ⟨_, rfl, _, _, _, _, _, rfl, h1.rd a, T.c_Blocks, T.n_Blocks_blocks, lkz ix_Blocks_blocks _, L.bd, rfl, .inl ⟨_, .inl (h1.rd L.bd)⟩, _, rfl, _, Sum.inl place, V.ref (L.bl place).a, h1.rd L.bd, rfl, by rw [valV_dk, hbk] <;> rfl, ?_⟩
    rw [dropK_dk]
    have h2 := h1.up L.bd (.dK (dk (gB L) (del m.blocks place)))
    refine ⟨_, _, _, _, _, rfl, h2.rd (L.bl place).a, T.c_Block, T.n_Block_run, lkz ix_Block_run _, ?_⟩
    -- without the block's own object
    have h3 : Owns (upd H L.bd (.dK (dk (gB L) (del m.blocks place)))) (blocksC K a L { m with blocks := del m.blocks place } + (cp + (d + F))) := h2.sub (e := cel (L.bl place).a (oBlock K (L.bl place).dx bk.size (runV bk (L.bl place).r))) (by
      unfold blocksC
      show _ = cel a (oBlocks K L) + (cel L.bd (.dK (dk (gB L) (del m.blocks place))) + (cel L.rd (.dK (dk (gR L) m.runs)) + (sumC (blkC K L) (del m.blocks place) + sumC (runC K L) m.runs))) + (cp + (d + F)) + _
      ac_rfl)
    have ok2 : BOk L { m with blocks := del m.blocks place } := ok.delBlk
    obtain ⟨hz, dxp, mk, rn, ecp⟩ := id hP
    cases hr0 : bk.run with
    | none =>
      rw [hr0] at hm
      obtain ⟨⟨A1, m1⟩, hm1, hm⟩ := Option.bind_eq_some_iff.mp hm
      cases hm
      have ev : runV bk (L.bl place).r = .non := by unfold runV; rw [hr0]
      refine ⟨_, rfl, rfl, _, rfl, iteY (by rw [ev] <;> rfl) ?_⟩
      have h3' := h3
      unfold blocksC at h3'
      have h3p := h3'
      rw [ecp] at h3p
      refine ⟨_, rfl, _, _, _, _, _, rfl, h3'.rd a, T.c_Blocks, T.n_Blocks_pages, lkz ix_Blocks_pages _, _, _, _, rfl, h3p.rd L.pa, lkn nx_Pages_give _, _, rfl, _, rfl, _, _, rfl, rfl, ⟨by decide, by decide⟩, L.pa, b, m.pg, m1, A0, A1, _, cp, d, blocksC K a L { m with blocks := del m.blocks place } + F, rfl, hP, hA, h3.to (by ac_rfl), hm1, fun H4 c4 d4 hP4 hA4 h4 => ?_⟩
      exact k _ L _ _ ⟨ok2.pg, c4, hP4, rfl⟩ hA4 (h4.to (by
        show _ = blocksC K a L { m with blocks := del m.blocks place } + c4 + _
        ac_rfl))
    | some f =>
      rw [hr0] at hm
      obtain ⟨rr, hrr, hm⟩ := Option.bind_eq_some_iff.mp hm
      split at hm
      case isFalse => cases hm
      rename_i hb
      obtain ⟨hb1, hb2, hb3, hb4, hb5⟩ := hb
      have er : (L.bl place).r = (L.rl f).a := ok.li (place, bk) (look_mem' hbk) f hr0 (by rw [hrr] <;> rfl)
      have ev : runV bk (L.bl place).r = .ref (L.rl f).a := by unfold runV; rw [hr0, er]
      rw [ev]
      refine ⟨_, rfl, rfl, _, rfl, iteN rfl ?_⟩
      obtain ⟨t1, t2⟩ := sum_at (f := runC K L) ok.nr hrr
      have h4 := h3
      unfold blocksC at h4
      have h4 : Owns (upd H L.bd (.dK (dk (gB L) (del m.blocks place)))) (cel a (oBlocks K L) + (cel L.bd (.dK (dk (gB L) (del m.blocks place))) + (cel L.rd (.dK (dk (gR L) m.runs)) + (sumC (blkC K L) (del m.blocks place) + sumC (runC K L) m.runs))) + (cp + (d + F))) := h4
      rw [t1] at h4
      unfold runC at h4
      -- run.used[run.number_at(place)] = False
      refine ⟨_, rfl, _, _, _, _, _, rfl, h4.rd (L.rl f).a, T.c_Run, T.n_Run_used, lkz ix_Run_used _, _, rfl, _, _, _, rfl, h4.rd (L.rl f).a, lkn nx_Run_number_at _, _, rfl, (L.rl f).a, _, _, rr, place, rfl, h4.rd (L.rl f).a, hb1, hb2, ?_⟩
      have hlt : (rr.numberAt place).toNat < rr.used.length := by omega
      refine ⟨(L.rl f).u, _, _, (rr.numberAt place).toNat, rfl, rfl, h4.rd (L.rl f).u, ixN_nat (by omega) (by rw [List.length_map]; exact hlt), ?_⟩
      have h5 := h4.up (L.rl f).u (.lst ((rr.used.map V.bl).set (rr.numberAt place).toNat (V.bl false)))
      have e5 : (rr.used.map V.bl).set (rr.numberAt place).toNat (V.bl false) = (rr.used.set (rr.numberAt place).toNat false).map V.bl := by rw [List.map_set]
      rw [e5] at h5 ⊢
      generalize upd (upd H L.bd (.dK (dk (gB L) (del m.blocks place)))) (L.rl f).u (.lst ((rr.used.set (rr.numberAt place).toNat false).map V.bl)) = H5 at h5 ⊢
      -- the house of blocks now
      have hm : (if ({ rr with used := rr.used.set (rr.numberAt place).toNat false } : MRun).isEmpty = true ∧ 1 < (runsWithRoom (put m.runs f { rr with used := rr.used.set (rr.numberAt place).toNat false }) rr.small).length then (m.pg.give A0 f).bind fun x => some (x.1, ({ m with blocks := del m.blocks place, runs := del (put m.runs f { rr with used := rr.used.set (rr.numberAt place).toNat false }) f, pg := x.2 } : MBlocks))
        else some (A0, { m with blocks := del m.blocks place, runs := put m.runs f { rr with used := rr.used.set (rr.numberAt place).toNat false } })) = some (A', m') := hm
      generalize hr2 : ({ rr with used := rr.used.set (rr.numberAt place).toNat false } : MRun) = r2 at hm
      have es : r2.small = rr.small := by rw [← hr2]
      have ef : r2.first = f := by rw [← hr2]; exact hb5
      have ok3 : BOk L { m with blocks := del m.blocks place, runs := put m.runs f r2 } := ok2.putRun hrr
      have hl2 : look (put m.runs f r2) f = some r2 := by rw [look_put hrr, if_pos rfl]
      have h6 : Owns H5 (blocksC K a L { m with blocks := del m.blocks place, runs := put m.runs f r2 } + (cp + (d + F))) := h5.to (by
        unfold blocksC
        show _ = cel a (oBlocks K L) + (cel L.bd (.dK (dk (gB L) (del m.blocks place))) + (cel L.rd (.dK (dk (gR L) (put m.runs f r2))) + (sumC (blkC K L) (del m.blocks place) + sumC (runC K L) (put m.runs f r2)))) + (cp + (d + F))
        rw [t2, dk_keys (g := fun k => V.ref (L.rl k).a) (put_keys (v' := r2) hrr), ← hr2]
        unfold runC
        ac_rfl)
      obtain ⟨u1, _⟩ := sum_at (f := runC K L) ok3.nr hl2
      have h7 : Owns H5 (cel (L.rl f).a (oRun K (L.rl f).dx (L.rl f).u r2) + (cel (L.rl f).u (.lst (r2.used.map V.bl)) + (cel a (oBlocks K L) + (cel L.bd (.dK (dk (gB L) (del m.blocks place))) + (cel L.rd (.dK (dk (gR L) (put m.runs f r2))) + (sumC (blkC K L) (del m.blocks place) + sumC (runC K L) (del (put m.runs f r2) f)))) + (cp + (d + F))))) := h6.to (by
        unfold blocksC
        show cel a (oBlocks K L) + (cel L.bd (.dK (dk (gB L) (del m.blocks place))) + (cel L.rd (.dK (dk (gR L) (put m.runs f r2))) + (sumC (blkC K L) (del m.blocks place) + sumC (runC K L) (put m.runs f r2)))) + (cp + (d + F)) = _
        rw [u1]
        unfold runC
        ac_rfl)
      -- run.is_empty() and len(self.runs_with_room(run.small)) > 1
      refine ⟨_, rfl, _, _, _, rfl, h7.rd (L.rl f).a, lkn nx_Run_is_empty _, (L.rl f).a, _, _, r2, _, rfl, h7, fun H8 h8 => ⟨_, rfl, ?_⟩⟩
      have h9 : Owns H8 (blocksC K a L { m with blocks := del m.blocks place, runs := put m.runs f r2 } + (cp + (d + F))) := h8.to (by
        unfold blocksC
        show _ = cel a (oBlocks K L) + (cel L.bd (.dK (dk (gB L) (del m.blocks place))) + (cel L.rd (.dK (dk (gR L) (put m.runs f r2))) + (sumC (blkC K L) (del m.blocks place) + sumC (runC K L) (put m.runs f r2)))) + (cp + (d + F))
        rw [u1]
        unfold runC
        ac_rfl)
      have stay : ∀ H', Owns H' (blocksC K a L { m with blocks := del m.blocks place, runs := put m.runs f r2 } + (cp + (d + F))) → some (A0, ({ m with blocks := del m.blocks place, runs := put m.runs f r2 } : MBlocks)) = some (A', m') → Q .non H' := fun H' h e => by
        cases e
        exact k _ L _ _ ⟨ok3, cp, hP, rfl⟩ hA (h.to (by ac_rfl))
      by_cases q1 : r2.isEmpty = true
      · refine iteY q1 ?_
        have h9' := h8
        refine ⟨_, rfl, _, _, _, rfl, h9'.rd a, lkn nx_Blocks_runs_with_room _, _, rfl, _, _, _, _, _, rfl, h9'.rd (L.rl f).a, T.c_Run, T.n_Run_small, lkz ix_Run_small _, a, L, _, r2.small, _, rfl, ok3, h9, fun H10 p h10 => ?_⟩
        refine ⟨_, _, rfl, .inl (SqL.of h10.get), _, _, rfl, rfl, _, rfl, ?_⟩
        rw [List.length_map, es]
        by_cases q2 : 1 < (runsWithRoom (put m.runs f r2) rr.small).length
        · rw [if_pos ⟨q1, q2⟩] at hm
          obtain ⟨⟨A1, m1⟩, hm1, hm⟩ := Option.bind_eq_some_iff.mp hm
          cases hm
          refine iteYd (by show (1 : Int) < ((runsWithRoom (put m.runs f r2) rr.small).length : Int); omega) ?_
          have h11 := h10.r
          unfold blocksC at h11
          have h11 : Owns H10 (cel a (oBlocks K L) + (cel L.bd (.dK (dk (gB L) (del m.blocks place))) + (cel L.rd (.dK (dk (gR L) (put m.runs f r2))) + (sumC (blkC K L) (del m.blocks place) + sumC (runC K L) (put m.runs f r2)))) + (cp + (d + F))) := h11
          rw [u1] at h11
          unfold runC at h11
          -- self.runs.pop(run.first)
          refine ⟨_, rfl, _, _, _, _, _, rfl, h11.rd a, T.c_Blocks, T.n_Blocks_runs, lkz ix_Blocks_runs _, L.rd, rfl, .inl ⟨_, .inl (h11.rd L.rd)⟩, _, rfl, _, _, _, _, _, rfl, h11.rd (L.rl f).a, T.c_Run, T.n_Run_first, lkz ix_Run_first _, _, Sum.inl f, V.ref (L.rl f).a, h11.rd L.rd, by rw [ef] <;> rfl, by rw [valV_dk, hl2] <;> rfl, ?_⟩
          rw [dropK_dk]
          have h12 := h11.up L.rd (.dK (dk (gR L) (del (put m.runs f r2) f)))
          have h12p := h12
          rw [ecp] at h12p
          -- self.pages.give(asks, run.first)
          refine ⟨_, rfl, _, _, _, _, _, rfl, h12.rd a, T.c_Blocks, T.n_Blocks_pages, lkz ix_Blocks_pages _, _, _, _, rfl, h12p.rd L.pa, lkn nx_Pages_give _, _, rfl, _, rfl, _, _, _, _, _, rfl, h12.rd (L.rl f).a, T.c_Run, T.n_Run_first, lkz ix_Run_first _, L.pa, b, m.pg, m1, A0, A1, _, cp, d, blocksC K a L { m with blocks := del m.blocks place, runs := del (put m.runs f r2) f } + F, rfl, hP, hA, h12.sub (e := cel (L.rl f).a (oRun K (L.rl f).dx (L.rl f).u r2) + cel (L.rl f).u (.lst (r2.used.map V.bl))) (by
            unfold blocksC
            show _ = cp + (d + (cel a (oBlocks K L) + (cel L.bd (.dK (dk (gB L) (del m.blocks place))) + (cel L.rd (.dK (dk (gR L) (del (put m.runs f r2) f))) + (sumC (blkC K L) (del m.blocks place) + sumC (runC K L) (del (put m.runs f r2) f)))) + F)) + _
            unfold runC
            ac_rfl), by rw [ef]; exact hm1, fun H13 c13 d13 hP13 hA13 h13 => ?_⟩
          exact k _ L _ _ ⟨(ok3.delRun (f := f)).pg, c13, hP13, rfl⟩ hA13 (h13.to (by
            show _ = blocksC K a L { m with blocks := del m.blocks place, runs := del (put m.runs f r2) f } + c13 + _
            ac_rfl))
        · rw [if_neg fun z => q2 z.2] at hm
          exact iteNd (by show ¬ (1 : Int) < ((runsWithRoom (put m.runs f r2) rr.small).length : Int); omega) (stay _ h10.r hm)
      · rw [if_neg fun z => q1 z.1] at hm
        have q1 : r2.isEmpty = false := by simpa using q1
        exact iteN q1 (iteF (stay _ h9 hm))
end
end GK
end
section
set_option Elab.async false
set_option linter.all false
set_option maxRecDepth 100000
set_option maxHeartbeats 4000000
namespace GK
open PySem PySem.Spec PyProof.Rows L2
theorem yKeysA {β : Type} {g : Int → β → V} {l : List (Int × β)} {n : Nat} : ∀ (i : Nat) (H : Hp) (x : V) (H' : Hp), i < n → (H' = H ∧ ∃ k v, (dk g l)[i]? = some (k, v) ∧ x = kV k) → H' = H ∧ ∃ a, l[i]? = some a ∧ x = V.int a.1 := fun _ _ _ _ _ h => yKeys h
theorem roomsOf_all {rs : List (Int × MRun)} : ∀ {l : List (Int × MBlock)} {xs : List Int}, roomsOf rs l = some xs → xs = l.map (fun b => (roomOf rs b.2).getD 0) ∧ ∀ b ∈ l, ∃ x, roomOf rs b.2 = some x
  | [], xs, h => by
    cases h
    exact ⟨rfl, fun b hb => by cases hb⟩
  | b :: l, xs, h => by
    obtain ⟨x, hx, h⟩ := Option.bind_eq_some_iff.mp h
    obtain ⟨ys, hy, rfl⟩ := Option.map_eq_some_iff.mp h
    obtain ⟨e, a⟩ := roomsOf_all hy
    refine ⟨?_, fun c hc => ?_⟩
    · rw [List.map_cons, hx, ← e]
      rfl
    · rcases List.mem_cons.mp hc with rfl | hc
      · exact ⟨x, hx⟩
      · exact a c hc
theorem tNil_sp {sp : Sp} {x : V} {σ : L2.St} {H : Hp} {Q : VK} {E : XK} (h : sp [x] H Q E) : tNil σ H fun vs H2 => sp (x :: vs) H2 Q E := h
/-- the cells with the dict of blocks, of runs as they may stand -/
noncomputable def blocksD (K : PySem.W.Frag) (a : Addr) (L : BLay) (m : MBlocks) (ob orr : HO) : Cells := cel a (oBlocks K L) + (cel L.bd ob + (cel L.rd orr + (sumC (blkC K L) m.blocks + sumC (runC K L) m.runs)))
theorem blocksD_eq {K : PySem.W.Frag} {a : Addr} {L : BLay} {m : MBlocks} : blocksC K a L m = blocksD K a L m (.dK (dk (gB L) m.blocks)) (.dK (dk (gR L) m.runs)) := rfl
section
variable {P : Program} {w : World} {K : PySem.W.Frag} {mg : Str → Option Value} {base : Heap}
theorem dread {L : BLay} {m : MBlocks} {a : Addr} {ob orr : HO} {H : Hp} {F : Cells} (ok : BOk L m) (h : Owns H (blocksD K a L m ob orr + F)) {p : Int × MBlock} (hp : p ∈ m.blocks) : H (L.bl p.1).a = some (oBlock K (L.bl p.1).dx p.2.size (runV p.2 (L.bl p.1).r)) := by
  have hl : look m.blocks p.1 = some p.2 := look_of_mem ok.nb hp
  unfold blocksD at h
  rw [(sum_at (f := blkC K L) ok.nb hl).1] at h
  unfold blkC at h
  exact h.rd (L.bl p.1).a
theorem rread {L : BLay} {m : MBlocks} {a : Addr} {ob orr : HO} {H : Hp} {F : Cells} (ok : BOk L m) (h : Owns H (blocksD K a L m ob orr + F)) {f : Int} {r : MRun} (hl : look m.runs f = some r) : H (L.rl f).a = some (oRun K (L.rl f).dx (L.rl f).u r) := by
  unfold blocksD at h
  rw [(sum_at (f := runC K L) ok.nr hl).1] at h
  unfold runC at h
  exact h.rd (L.rl f).a
/-- what room() of a block gives, read off the house of blocks -/
theorem room_ok {L : BLay} {m : MBlocks} {a : Addr} {ob orr : HO} {H : Hp} {F : Cells} (ok : BOk L m) (h : Owns H (blocksD K a L m ob orr + F)) {p : Int × MBlock} (hp : p ∈ m.blocks) {x : Int} (hx : roomOf m.runs p.2 = some x) {Q : VK} (q : Q (.int x) H) {E : XK} :
    sp_Block_room K [.ref (L.bl p.1).a] H Q E := by
  refine ⟨(L.bl p.1).a, (L.bl p.1).dx, p.2.size, runV p.2 (L.bl p.1).r, rfl, dread ok h hp, ?_⟩
  unfold roomOf at hx
  cases hr0 : p.2.run with
  | none =>
    rw [hr0] at hx
    cases hx
    exact .inl ⟨by unfold runV; rw [hr0], q⟩
  | some f =>
    rw [hr0] at hx
    obtain ⟨r, hr, rfl⟩ := Option.map_eq_some_iff.mp hx
    exact .inr ⟨(L.rl f).a, _, _, r, by unfold runV; rw [hr0, ok.li p hp f hr0 (by rw [hr] <;> rfl)], rread ok h hr, q⟩
def sp_Blocks_run_bytes (K : PySem.W.Frag) : Sp := fun vs H Q _ => ∃ (a : Addr) (L : BLay) (m : MBlocks) (F : Cells), vs = [.ref a] ∧ BOk L m ∧ Owns H (blocksC K a L m + F) ∧ ∀ H', Owns H' (blocksC K a L m + F) → Q (.int m.runBytes) H'
theorem sc_Blocks_run_bytes : FnScope ["self", "total", "place", "first"] ["self"] (defScope s_Blocks_run_bytes) := ⟨rfl, rfl, rfl, by decide +kernel, rfl, by decide +kernel, by decide +kernel⟩
theorem ok_Blocks_run_bytes (T : Env K mg) : DOk P w K mg base 3 ("Blocks", some "run_bytes") ["self"] (sp_Blocks_run_bytes K) := by
  obtain ⟨fd, F⟩ := T.d_Blocks_run_bytes
  refine ⟨fd, F.ok sc_Blocks_run_bytes (fun vs H Q E h => ?_) (fun cdv A outer s H vs Q E hr h => ?_), F.bindsN fun _ _ _ _ _ _ us hl => match us, hl with | [_], _ => rfl, F.kp⟩
  · obtain ⟨a, L, m, F, rfl, ok, hO, k⟩ := h
    rfl
  · obtain ⟨a, L, m, F, rfl, ok, hO, k⟩ := h
    refine ⟨_, PSs.nox (pss_cons (ps_set (i := 1) sc_Blocks_run_bytes.nd rfl (Or.inl rfl) (pe_op op_mul (pe_callB (cr_sum rfl) (by rfl) T.f_sum (by decide +kernel) (pa_cons (pe_lock (pe_lc (own := [("first", 3)]) (g := gName 3) rfl sc_Blocks_run_bytes.nd (pi_keys (kfld (K := K) rfl (pv 0) rfl)) (blkOk_by (own := [("first", 3)]) (N := ["self", "total", "place", "first"]) (sc := defScope s_Blocks_run_bytes) (by decide +kernel)) (fun _ _ _ _ _ => pg_name (i := 3) sc_Blocks_run_bytes.nd rfl (Or.inl rfl)) (fun _ _ _ _ _ => pts_nil) (fun _ _ _ _ _ => (kfld (K := K) rfl (pe_dget (hu_of hr) (kfld (K := K) rfl (pv 0) rfl) (pv 3) (fun _ _ => rfl)) rfl)))) pa_nil)) (pe_gi T.i_PAGE)))
      (pss_cons (ps_lock (ps_for PassesOwn.never rfl (pi_keys (kfld (K := K) rfl (pv 0) rfl)) (pg_name (i := 2) sc_Blocks_run_bytes.nd rfl (Or.inl rfl))
        (pss_one (ps_if (pt_cmpR op_isN (kfld (K := K) rfl (pe_dget (hu_of hr) (kfld (K := K) rfl (pv 0) rfl) (pv 2) (fun _ _ => rfl)) rfl) pe_non (nomark _))
        (pss_one (ps_aug (i := 1) sc_Blocks_run_bytes.nd rfl (.inl rfl) (pmt0 (K := K) rfl (pe_dget (hu_of hr) (kfld (K := K) rfl (pv 0) rfl) (pv 2) (fun _ _ => rfl)) T.c_Block T.m_Block_room (ok_Block_room T) (hr.mono (by decide))) ip_add))
        pss_nil))))
      (pss_one (ps_ret (pv 1))))), ?_⟩
    have h1 := hO
    unfold blocksC at h1
    refine ⟨L.rd, _, h1.rd L.rd, trivial, fun od => ?_⟩
    have h2 := h1.up L.rd (.frz od (.dK (dk (gR L) m.runs)))
    have h2D : Owns _ (blocksD K a L m (.dK (dk (gB L) m.blocks)) (.frz od (.dK (dk (gR L) m.runs))) + F) := h2.to (by unfold blocksD; ac_rfl)
    refine ⟨_, rfl, _, _, _, _, _, rfl, h2.rd a, T.c_Blocks, T.n_Blocks_runs, lkz ix_Blocks_runs _, L.rd, od, rfl, .inl ⟨_, h2.rd L.rd, fun D hD => lcA m.runs (fun p => .int p.1) walk_keys dk_length.symm yKeysA h2D (fun H h => by unfold blocksD at h; exact h.rd L.rd) (fun _ => true) (fun p => V.int p.2.pages) hD (by rw [dk_length]; exact ok.lr) (fun _ => rfl) (fun _ _ _ _ Q q => q) (fun p hp _ H h Q q => ?_) (fun H h => ?_)⟩⟩
    · have h' : Owns H (blocksD K a L m (.dK (dk (gB L) m.blocks)) (.frz od (.dK (dk (gR L) m.runs))) + F) := h
      unfold blocksD at h'
      have hl : look m.runs p.1 = some p.2 := look_of_mem ok.nr hp
      exact ⟨_, rfl, _, _, _, _, _, rfl, h'.rd a, T.c_Blocks, T.n_Blocks_runs, lkz ix_Blocks_runs _, _, rfl, L.rd, _, rfl, dgetF (g := gR L) (h'.rd L.rd) hl, _, _, _, _, _, rfl, rread ok h hl, T.c_Run, T.n_Run_pages, lkz ix_Run_pages _, q⟩
    have h3 := h
    unfold blocksD at h3
    refine ⟨h3.rd L.rd, ?_⟩
    have h4 := h3.up L.rd (.dK (dk (gR L) m.runs))
    rw [List.filter_eq_self.mpr (fun _ _ => rfl)] at h4
    refine ⟨D, m.runs.map (fun p => p.2.pages), rfl, SqL.of (by rw [List.map_map]; exact h4.rd D), _, _, rfl, rfl, .inr ⟨by decide, by decide⟩, ?_⟩
    generalize upd H L.rd (.dK (dk (gR L) m.runs)) = H5 at h4 ⊢
    have h5 : Owns H5 (blocksC K a L m + F) := h4.sub (e := cel D (.lst (List.map (fun p => V.int p.2.pages) m.runs))) (by unfold blocksC; ac_rfl)
    have h5' := h5
    unfold blocksC at h5'
    -- for place in self.blocks
    refine ⟨L.bd, _, h5'.rd L.bd, trivial, fun oe => ?_⟩
    have h6 := h5'.up L.bd (.frz oe (.dK (dk (gB L) m.blocks)))
    have h6D : Owns _ (blocksD K a L m (.frz oe (.dK (dk (gB L) m.blocks))) (.dK (dk (gR L) m.runs)) + F) := h6.to (by unfold blocksD; ac_rfl)
    refine ⟨_, rfl, _, _, _, _, _, rfl, h6.rd a, T.c_Blocks, T.n_Blocks_blocks, lkz ix_Blocks_blocks _, L.bd, oe, rfl, .inl ⟨_, h6.rd L.bd, for_it walk_keys (fun i σ H' => ∃ (t : Int) (v1 v2 : Option V), σ = [some (.ref a), some (.int t), v1, v2] ∧ Owns H' (blocksD K a L m (.frz oe (.dK (dk (gB L) m.blocks))) (.dK (dk (gR L) m.runs)) + F) ∧ t + greatBytes (m.blocks.drop i) = m.runBytes)
      ⟨_, _, _, rfl, h6D, rfl⟩ (fun i σ H' _ h => ?_) ?_ ?_⟩⟩
    · obtain ⟨_, _, _, _, h, _⟩ := h
      unfold blocksD at h
      exact h.rd L.bd
    · rintro i y σ H' H'' hi ⟨t, v1, v2, rfl, h, ht⟩ yy
      obtain ⟨rfl, p, hp, rfl⟩ := yKeys yy
      have hm := List.mem_of_getElem? hp
      have hl : look m.blocks p.1 = some p.2 := look_of_mem ok.nb hm
      obtain ⟨q1, q2⟩ := List.getElem?_eq_some_iff.mp hp
      rw [List.drop_eq_getElem_cons q1, q2] at ht
      have h' := h
      unfold blocksD at h'
      refine ⟨_, rfl, _, _, _, _, _, rfl, h'.rd a, T.c_Blocks, T.n_Blocks_blocks, lkz ix_Blocks_blocks _, _, rfl, L.bd, _, rfl, dgetF (g := gB L) (h'.rd L.bd) hl, _, _, _, _, _, rfl, dread ok h hm, T.c_Block, T.n_Block_run, lkz ix_Block_run _, rfl, _, rfl, ?_⟩
      cases hr0 : p.2.run with
      | none =>
        refine iteY (by unfold runV; rw [hr0] <;> rfl) ?_
        refine ⟨_, rfl, _, rfl, _, _, _, _, _, rfl, h'.rd a, T.c_Blocks, T.n_Blocks_blocks, lkz ix_Blocks_blocks _, _, rfl, L.bd, _, rfl, dgetF (g := gB L) (h'.rd L.bd) hl, _, _, _, rfl, dread ok h hm, lkn nx_Block_room _, ?_⟩
        refine tNil_sp (sp := sp_Block_room K) ?_
        refine room_ok (x := pagesOf p.2.size * 4096) ok h hm (by unfold roomOf; rw [hr0]) ?_
        refine ⟨_, _, rfl, rfl, ?_⟩
        refine ⟨_, _, _, rfl, h, ?_⟩
        have ht : t + ((match p.2.run with
          | none => pagesOf p.2.size * 4096
          | some _ => 0) + greatBytes (m.blocks.drop (i + 1))) = m.runBytes := ht
        rw [hr0] at ht
        rw [← ht]
        show t + pagesOf p.2.size * 4096 + _ = t + (pagesOf p.2.size * 4096 + _)
        omega
      | some f =>
        refine iteN (by unfold runV; rw [hr0] <;> rfl) ?_
        refine ⟨_, _, _, rfl, h, ?_⟩
        have ht : t + ((match p.2.run with
          | none => pagesOf p.2.size * 4096
          | some _ => 0) + greatBytes (m.blocks.drop (i + 1))) = m.runBytes := ht
        rw [hr0] at ht
        rw [← ht]
        show t + _ = t + (0 + _)
        omega
    · rintro σ H' ⟨t, v1, v2, rfl, h, ht⟩
      rw [dk_length, List.drop_length] at ht
      have ht : t = m.runBytes := by
        have : t + 0 = m.runBytes := ht
        omega
      subst ht
      unfold blocksD at h
      exact ⟨h.rd L.bd, _, rfl, k _ ((h.up L.bd (.dK (dk (gB L) m.blocks))).to (by unfold blocksC; ac_rfl))⟩
def sp_Blocks_sums (K : PySem.W.Frag) : Sp := fun vs H Q _ => ∃ (a : Addr) (L : BLay) (m : MBlocks) (xs : List Int) (c F : Cells), vs = [.ref a] ∧ BlocksL K a L m c ∧ Owns H (c + F) ∧ m.sums = some xs ∧ ∀ H' p, Owns H' (cel p (.lst (xs.map V.int)) + (c + F)) → Q (.ref p) H'
theorem sc_Blocks_sums : FnScope ["self", "sizes", "rooms", "place"] ["self"] (defScope s_Blocks_sums) := ⟨rfl, rfl, rfl, by decide +kernel, rfl, by decide +kernel, by decide +kernel⟩
theorem ok_Blocks_sums (T : Env K mg) : DOk P w K mg base 4 ("Blocks", some "sums") ["self"] (sp_Blocks_sums K) := by
  obtain ⟨fd, F⟩ := T.d_Blocks_sums
  refine ⟨fd, F.ok sc_Blocks_sums (fun vs H Q E h => ?_) (fun cdv A outer s H vs Q E hr h => ?_), F.bindsN fun _ _ _ _ _ _ us hl => match us, hl with | [_], _ => rfl, F.kp⟩
  · obtain ⟨a, L, m, xs, c, F, rfl, ⟨ok, cp, hP, rfl⟩, hO, hm, k⟩ := h
    rfl
  · obtain ⟨a, L, m, xs, c, F, rfl, ⟨ok, cp, hP, rfl⟩, hO, hm, k⟩ := h
    refine ⟨_, PSs.nox (pss_cons (ps_set (i := 1) sc_Blocks_sums.nd rfl (Or.inl rfl) (pe_callB (cr_sum rfl) (by rfl) T.f_sum (by decide +kernel) (pa_cons (pe_lock (pe_lc (own := [("place", 3)]) (g := gName 3) rfl sc_Blocks_sums.nd (pi_keys (kfld (K := K) rfl (pv 0) rfl)) (blkOk_by (own := [("place", 3)]) (N := ["self", "sizes", "rooms", "place"]) (sc := defScope s_Blocks_sums) (by decide +kernel)) (fun _ _ _ _ _ => pg_name (i := 3) sc_Blocks_sums.nd rfl (Or.inl rfl)) (fun _ _ _ _ _ => pts_nil) (fun _ _ _ _ _ => (kfld (K := K) rfl (pe_dget (hu_of hr) (kfld (K := K) rfl (pv 0) rfl) (pv 3) (fun _ _ => rfl)) rfl)))) pa_nil)))
      (pss_cons (ps_set (i := 2) sc_Blocks_sums.nd rfl (Or.inl rfl) (pe_callB (cr_sum rfl) (by rfl) T.f_sum (by decide +kernel) (pa_cons (pe_lock (pe_lc (own := [("place", 3)]) (g := gName 3) rfl sc_Blocks_sums.nd (pi_keys (kfld (K := K) rfl (pv 0) rfl)) (blkOk_by (own := [("place", 3)]) (N := ["self", "sizes", "rooms", "place"]) (sc := defScope s_Blocks_sums) (by decide +kernel)) (fun _ _ _ _ _ => pg_name (i := 3) sc_Blocks_sums.nd rfl (Or.inl rfl)) (fun _ _ _ _ _ => pts_nil) (fun _ _ _ _ _ => (pmt0 (K := K) rfl (pe_dget (hu_of hr) (kfld (K := K) rfl (pv 0) rfl) (pv 3) (fun _ _ => rfl)) T.c_Block T.m_Block_room (ok_Block_room T) (hr.mono (by decide)))))) pa_nil)))
      (pss_one (ps_ret (pe_op op_cat (pe_lst (pa_cons (pe_callB call_lenD (by rfl) T.f_len PySem.boot_len (pa_cons (kfld (K := K) rfl (pv 0) rfl) pa_nil)) (pa_cons (pv 1) (pa_cons (pv 2) (pa_cons (pmt0 (K := K) rfl (pv 0) T.c_Blocks T.m_Blocks_run_bytes (ok_Blocks_run_bytes T) (hr.mono (by decide))) pa_nil))))) (pmt0 (K := K) rfl (kfld (K := K) rfl (pv 0) rfl) T.c_Pages T.m_Pages_sums (ok_Pages_sums T) (hr.mono (by decide)))))))), ?_⟩
    obtain ⟨rooms, hrooms, rfl⟩ := Option.map_eq_some_iff.mp hm
    obtain ⟨er, ar⟩ := roomsOf_all hrooms
    -- a sum over all blocks
    have h0 : Owns H (blocksC K a L m + (cp + F)) := hO.to (by ac_rfl)
    have h1 := h0
    unfold blocksC at h1
    refine ⟨L.bd, _, h1.rd L.bd, trivial, fun od => ?_⟩
    have h2 := h1.up L.bd (.frz od (.dK (dk (gB L) m.blocks)))
    have h2D : Owns _ (blocksD K a L m (.frz od (.dK (dk (gB L) m.blocks))) (.dK (dk (gR L) m.runs)) + (cp + F)) := h2.to (by unfold blocksD; ac_rfl)
    refine ⟨_, rfl, _, _, _, _, _, rfl, h2.rd a, T.c_Blocks, T.n_Blocks_blocks, lkz ix_Blocks_blocks _, L.bd, od, rfl, .inl ⟨_, h2.rd L.bd, fun D hD => lcA m.blocks (fun p => .int p.1) walk_keys dk_length.symm yKeysA h2D (fun H h => by unfold blocksD at h; exact h.rd L.bd) (fun _ => true) (fun p => V.int p.2.size) hD (by rw [dk_length]; exact ok.lb) (fun _ => rfl) (fun _ _ _ _ Q q => q) (fun p hp _ H h Q q => ?_) (fun H h => ?_)⟩⟩
    · have h' : Owns H (blocksD K a L m (.frz od (.dK (dk (gB L) m.blocks))) (.dK (dk (gR L) m.runs)) + (cp + F)) := h
      unfold blocksD at h'
      have hl : look m.blocks p.1 = some p.2 := look_of_mem ok.nb hp
      exact ⟨_, rfl, _, _, _, _, _, rfl, h'.rd a, T.c_Blocks, T.n_Blocks_blocks, lkz ix_Blocks_blocks _, _, rfl, L.bd, _, rfl, dgetF (g := gB L) (h'.rd L.bd) hl, _, _, _, _, _, rfl, dread ok h hp, T.c_Block, T.n_Block_size, lkz ix_Block_size _, q⟩
    have h3 := h
    unfold blocksD at h3
    refine ⟨h3.rd L.bd, ?_⟩
    have h4 := h3.up L.bd (.dK (dk (gB L) m.blocks))
    rw [List.filter_eq_self.mpr (fun _ _ => rfl)] at h4
    refine ⟨D, m.blocks.map (fun p => p.2.size), rfl, SqL.of (by rw [List.map_map]; exact h4.rd D), ?_⟩
    generalize upd H L.bd (.dK (dk (gB L) m.blocks)) = H5 at h4 ⊢
    have h5 : Owns H5 (blocksC K a L m + (cp + F)) := h4.sub (e := cel D (.lst (List.map (fun p => V.int p.2.size) m.blocks))) (by unfold blocksC; ac_rfl)
    clear h4 h3 h h2D h2 hD
    have h1 := h5
    unfold blocksC at h1
    refine ⟨L.bd, _, h1.rd L.bd, trivial, fun od => ?_⟩
    have h2 := h1.up L.bd (.frz od (.dK (dk (gB L) m.blocks)))
    have h2D : Owns _ (blocksD K a L m (.frz od (.dK (dk (gB L) m.blocks))) (.dK (dk (gR L) m.runs)) + (cp + F)) := h2.to (by unfold blocksD; ac_rfl)
    refine ⟨_, rfl, _, _, _, _, _, rfl, h2.rd a, T.c_Blocks, T.n_Blocks_blocks, lkz ix_Blocks_blocks _, L.bd, od, rfl, .inl ⟨_, h2.rd L.bd, fun D hD => lcA m.blocks (fun p => .int p.1) walk_keys dk_length.symm yKeysA h2D (fun H h => by unfold blocksD at h; exact h.rd L.bd) (fun _ => true) (fun p => V.int ((roomOf m.runs p.2).getD 0)) hD (by rw [dk_length]; exact ok.lb) (fun _ => rfl) (fun _ _ _ _ Q q => q) (fun p hp _ H h Q q => ?_) (fun H h => ?_)⟩⟩
    · have h' : Owns H (blocksD K a L m (.frz od (.dK (dk (gB L) m.blocks))) (.dK (dk (gR L) m.runs)) + (cp + F)) := h
      unfold blocksD at h'
      have hl : look m.blocks p.1 = some p.2 := look_of_mem ok.nb hp
      obtain ⟨x, hx⟩ := ar p hp
      rw [hx] at q
      exact ⟨_, rfl, _, _, _, _, _, rfl, h'.rd a, T.c_Blocks, T.n_Blocks_blocks, lkz ix_Blocks_blocks _, _, rfl, L.bd, _, rfl, dgetF (g := gB L) (h'.rd L.bd) hl, _, _, _, rfl, dread ok h hp, lkn nx_Block_room _, tNil_sp (sp := sp_Block_room K) (room_ok (E := E0) (x := x) ok h hp hx q)⟩
    have h3 := h
    unfold blocksD at h3
    refine ⟨h3.rd L.bd, ?_⟩
    have h4 := h3.up L.bd (.dK (dk (gB L) m.blocks))
    rw [List.filter_eq_self.mpr (fun _ _ => rfl)] at h4
    have e4 : List.map (fun (p : Int × MBlock) => V.int ((roomOf m.runs p.2).getD 0)) m.blocks = rooms.map V.int := by
      rw [er, List.map_map]
      rfl
    rw [e4] at h4
    refine ⟨D, rooms, rfl, SqL.of (h4.rd D), ?_⟩
    generalize upd H L.bd (.dK (dk (gB L) m.blocks)) = H6 at h4 ⊢
    have h6 : Owns H6 (blocksC K a L m + (cp + F)) := h4.sub (e := cel D (.lst (rooms.map V.int))) (by unfold blocksC; ac_rfl)
    have h6' := h6
    unfold blocksC at h6'
    -- [len(self.blocks), sizes, rooms, self.run_bytes()] + self.pages.sums()
    refine ⟨_, rfl, _, _, _, _, _, rfl, h6'.rd a, T.c_Blocks, T.n_Blocks_blocks, lkz ix_Blocks_blocks _, L.bd, _, rfl, h6'.rd L.bd, _, rfl, _, rfl, _, rfl, _, _, _, rfl, h6'.rd a, lkn nx_Blocks_run_bytes _, a, L, m, _, rfl, ok, h6, fun H7 h7 => ?_⟩
    refine ⟨(by show 4 ≤ sizeLine; decide), fun q hq => ?_⟩
    have h8 := h7.new hq (o := .lst [.int ((dk (gB L) m.blocks).length : Int), .int (m.blocks.map (fun p => p.2.size)).sum, .int rooms.sum, .int m.runBytes])
    have h8' := h8
    unfold blocksC at h8'
    obtain ⟨hz, dxp, mk, rn, ecp⟩ := id hP
    have h8p := h8'
    rw [ecp] at h8p
    refine ⟨_, rfl, _, _, _, _, _, rfl, h8'.rd a, T.c_Blocks, T.n_Blocks_pages, lkz ix_Blocks_pages _, _, _, _, rfl, h8p.rd L.pa, lkn nx_Pages_sums _, L.pa, m.pg, cp, cel q _ + blocksC K a L m + F, rfl, hP, h8.to (by ac_rfl), fun H9 s h9 => ?_⟩
    refine ⟨q, s, _, _, rfl, rfl, h9.rd q, h9.get, ?_, fun t ht => ?_⟩
    · rw [List.length_map]
      show 4 + 8 ≤ sizeLine
      decide
    have h10 := h9.new ht (o := .lst ([.int ((dk (gB L) m.blocks).length : Int), .int (m.blocks.map (fun p => p.2.size)).sum, .int rooms.sum, .int m.runBytes] ++ m.pg.sums.map V.int))
    refine k _ _ (h10.sub (e := cel q (.lst [.int ((dk (gB L) m.blocks).length : Int), .int (m.blocks.map (fun p => p.2.size)).sum, .int rooms.sum, .int m.runBytes]) + cel s (.lst (m.pg.sums.map V.int))) ?_)
    rw [List.map_append, dk_length]
    show _ = cel t (.lst ([.int (m.blocks.length : Int), .int (m.blocks.map (fun p => p.2.size)).sum, .int rooms.sum, .int m.runBytes] ++ m.pg.sums.map V.int)) + _ + _
    ac_rfl
end
end GK
end
section
set_option Elab.async false
set_option linter.all false
set_option maxRecDepth 100000
set_option maxHeartbeats 4000000
namespace GK
open PySem PySem.Spec PyProof.Rows L2
/-! ### Piece -/
structure PL where
  a : Addr
  dx : Addr
  o : Addr
abbrev vPiece (l : PL) (p : MPiece) : List V := [.int p.number, .int p.block, .int p.place, .int p.size, .int p.guard, .int p.who, .bl p.held, .int p.giver, .ref l.o]
abbrev oPiece (K : PySem.W.Frag) (l : PL) (p : MPiece) : HO := .ins (He.ga K "Piece") l.dx (k_Piece.zip (vPiece l p))
noncomputable def pieC (K : PySem.W.Frag) (l : PL) (p : MPiece) : Cells := cel l.a (oPiece K l p) + cel l.o (.dK (dk gI p.others))
structure POk (p : MPiece) : Prop where
  nd : (p.others.map (·.1)).Nodup
  le : p.others.length ≤ 4000000
section
variable {P : Program} {w : World} {K : PySem.W.Frag} {mg : Str → Option Value} {base : Heap}
def sp_guard_byte (K : PySem.W.Frag) : Sp := fun vs H Q _ => ∃ (x : Int), vs = [.int x] ∧ Q (.int (guardByte x)) H
theorem sc_guard_byte : FnScope ["place"] ["place"] (defScope s_guard_byte) := ⟨rfl, rfl, rfl, by decide +kernel, rfl, by decide +kernel, by decide +kernel⟩
theorem ok_guard_byte (T : Env K mg) : DOk P w K mg base 1 ("guard_byte", none) ["place"] (sp_guard_byte K) := by
  obtain ⟨fd, F⟩ := T.d_guard_byte
  refine ⟨fd, F.ok sc_guard_byte (fun vs H Q E h => ?_) (fun cdv A outer s H vs Q E hr h => ?_), F.bindsN fun _ _ _ _ _ _ us hl => match us, hl with | [_], _ => rfl, F.kp⟩
  · obtain ⟨x, rfl, k⟩ := h
    rfl
  · obtain ⟨x, rfl, k⟩ := h
    refine ⟨_, PSs.nox (pss_one (ps_ret (pe_op op_andM (pe_op op_add (pe_op op_mul pe_int (pv 0)) pe_int) pe_int))), ?_⟩
    exact ⟨_, rfl, _, _, rfl, rfl, .inl ⟨by decide, by decide⟩, _, _, rfl, rfl, _, 8, rfl, rfl, k⟩
def sp_Piece_init (K : PySem.W.Frag) : Sp := fun vs H Q _ => ∃ (a dx : Addr) (number block place size guard who : Int) (F : Cells), vs = [.ref a, .int number, .int block, .int place, .int size, .int guard, .int who] ∧ Owns H (cel a (.ins (He.ga K "Piece") dx []) + F) ∧
  ∀ (H' : Hp) (o : Addr), Owns H' (pieC K ⟨a, dx, o⟩ ⟨number, block, place, size, guard, who, false, 0, []⟩ + F) → Q .non H'
theorem sc_Piece_init : FnScope ["self", "number", "block", "place", "size", "guard", "who"] ["self", "number", "block", "place", "size", "guard", "who"] (defScope s_Piece_init) := ⟨rfl, rfl, rfl, by decide +kernel, rfl, by decide +kernel, by decide +kernel⟩
theorem ok_Piece_init (T : Env K mg) : DOk P w K mg base 1 ("Piece", some "__init__") ["self", "number", "block", "place", "size", "guard", "who"] (sp_Piece_init K) := by
  obtain ⟨fd, F⟩ := T.d_Piece_init
  refine ⟨fd, F.ok sc_Piece_init (fun vs H Q E h => ?_) (fun cdv A outer s H vs Q E hr h => ?_), F.bindsN fun _ _ _ _ _ _ us hl => match us, hl with | [_, _, _, _, _, _, _], _ => rfl, F.kp⟩
  · obtain ⟨a, dx, number, block, place, size, guard, who, F, rfl, hO, k⟩ := h
    rfl
  · obtain ⟨a, dx, number, block, place, size, guard, who, F, rfl, hO, k⟩ := h
    refine ⟨_, PSs.nox (pss_cons (ksfld (K := K) rfl (pv 0) (pv 1) rfl)
      (pss_cons (ksfld (K := K) rfl (pv 0) (pv 2) rfl)
      (pss_cons (ksfld (K := K) rfl (pv 0) (pv 3) rfl)
      (pss_cons (ksfld (K := K) rfl (pv 0) (pv 4) rfl)
      (pss_cons (ksfld (K := K) rfl (pv 0) (pv 5) rfl)
      (pss_cons (ksfld (K := K) rfl (pv 0) (pv 6) rfl)
      (pss_cons (ksfld (K := K) rfl (pv 0) pe_bl rfl)
      (pss_cons (ksfld (K := K) rfl (pv 0) pe_int rfl)
      (pss_one (ksfld (K := K) rfl (pv 0) pe_dnewK rfl)))))))))), ?_⟩
    refine ⟨_, rfl, _, rfl, _, _, _, _, rfl, hO.rd a, T.c_Piece, T.n_Piece_number, (by show 0 < 1000; decide), ?_⟩
    have h1 := hO.up a (.ins (He.ga K "Piece") dx ((["number"] : List Str).zip [.int number]))
    refine ⟨_, rfl, _, rfl, _, _, _, _, rfl, h1.rd a, T.c_Piece, T.n_Piece_block, lnz (by decide) _, ?_⟩
    have h2 := h1.upA a nz_Piece_block (.int block)
    refine ⟨_, rfl, _, rfl, _, _, _, _, rfl, h2.rd a, T.c_Piece, T.n_Piece_place, lnz (by decide) _, ?_⟩
    have h3 := h2.upA a nz_Piece_place (.int place)
    refine ⟨_, rfl, _, rfl, _, _, _, _, rfl, h3.rd a, T.c_Piece, T.n_Piece_size, lnz (by decide) _, ?_⟩
    have h4 := h3.upA a nz_Piece_size (.int size)
    refine ⟨_, rfl, _, rfl, _, _, _, _, rfl, h4.rd a, T.c_Piece, T.n_Piece_guard, lnz (by decide) _, ?_⟩
    have h5 := h4.upA a nz_Piece_guard (.int guard)
    refine ⟨_, rfl, _, rfl, _, _, _, _, rfl, h5.rd a, T.c_Piece, T.n_Piece_who, lnz (by decide) _, ?_⟩
    have h6 := h5.upA a nz_Piece_who (.int who)
    refine ⟨_, rfl, _, _, _, _, rfl, h6.rd a, T.c_Piece, T.n_Piece_is_held, lnz (by decide) _, ?_⟩
    have h7 := h6.upA a nz_Piece_is_held (.bl false)
    refine ⟨_, rfl, _, _, _, _, rfl, h7.rd a, T.c_Piece, T.n_Piece_giver, lnz (by decide) _, ?_⟩
    have h8 := h7.upA a nz_Piece_giver (.int 0)
    intro o ho
    have h9 := h8.new ho (o := .dK [])
    refine ⟨_, rfl, _, _, _, _, rfl, h9.rd a, T.c_Piece, T.n_Piece_others, lnz (by decide) _, ?_⟩
    have h10 := h9.upA a nz_Piece_others (.ref o)
    refine k _ o (h10.to ?_)
    show cel a (oPiece K ⟨a, dx, o⟩ ⟨number, block, place, size, guard, who, false, 0, []⟩) + _ = cel a (oPiece K ⟨a, dx, o⟩ ⟨number, block, place, size, guard, who, false, 0, []⟩) + cel o (.dK []) + F
    ac_rfl
def sp_Piece_end (K : PySem.W.Frag) : Sp := fun vs H Q _ => ∃ (l : PL) (p : MPiece), vs = [.ref l.a] ∧ H l.a = some (oPiece K l p) ∧ Q (.int p.end_) H
theorem sc_Piece_end : FnScope ["self"] ["self"] (defScope s_Piece_end) := ⟨rfl, rfl, rfl, by decide +kernel, rfl, by decide +kernel, by decide +kernel⟩
theorem ok_Piece_end (T : Env K mg) : DOk P w K mg base 1 ("Piece", some "end") ["self"] (sp_Piece_end K) := by
  obtain ⟨fd, F⟩ := T.d_Piece_end
  refine ⟨fd, F.ok sc_Piece_end (fun vs H Q E h => ?_) (fun cdv A outer s H vs Q E hr h => ?_), F.bindsN fun _ _ _ _ _ _ us hl => match us, hl with | [_], _ => rfl, F.kp⟩
  · obtain ⟨l, p, rfl, h, k⟩ := h
    rfl
  · obtain ⟨l, p, rfl, h, k⟩ := h
    refine ⟨_, PSs.nox (pss_one (ps_ret (pe_op op_add (kfld (K := K) rfl (pv 0) rfl) (kfld (K := K) rfl (pv 0) rfl)))), ?_⟩
    exact ⟨_, rfl, _, _, _, _, _, rfl, h, T.c_Piece, T.n_Piece_place, lkz ix_Piece_place _, _, rfl, _, _, _, _, _, rfl, h, T.c_Piece, T.n_Piece_size, lkz ix_Piece_size _, _, _, rfl, rfl, k⟩
def sp_Piece_has (K : PySem.W.Frag) : Sp := fun vs H Q _ => ∃ (l : PL) (p : MPiece) (x many : Int), vs = [.ref l.a, .int x, .int many] ∧ H l.a = some (oPiece K l p) ∧ Q (.bl (p.has x many)) H
theorem sc_Piece_has : FnScope ["self", "at", "many"] ["self", "at", "many"] (defScope s_Piece_has) := ⟨rfl, rfl, rfl, by decide +kernel, rfl, by decide +kernel, by decide +kernel⟩
theorem ok_Piece_has (T : Env K mg) : DOk P w K mg base 2 ("Piece", some "has") ["self", "at", "many"] (sp_Piece_has K) := by
  obtain ⟨fd, F⟩ := T.d_Piece_has
  refine ⟨fd, F.ok sc_Piece_has (fun vs H Q E h => ?_) (fun cdv A outer s H vs Q E hr h => ?_), F.bindsN fun _ _ _ _ _ _ us hl => match us, hl with | [_, _, _], _ => rfl, F.kp⟩
  · obtain ⟨l, p, x, many, rfl, h, k⟩ := h
    rfl
  · obtain ⟨l, p, x, many, rfl, h, k⟩ := h
    refine ⟨_, PSs.nox (pss_one (ps_ret (pe_and (pe_cmpR op_le (kfld (K := K) rfl (pv 0) rfl) (pv 1) (nomark _)) (pe_one (pe_cmpR op_le (pe_op op_add (pv 1) (pv 2)) (pe_op op_add (pmt0 (K := K) rfl (pv 0) T.c_Piece T.m_Piece_end (ok_Piece_end T) (hr.mono (by decide))) (kfld (K := K) rfl (pv 0) rfl)) (nomark _)))))), ?_⟩
    refine ⟨_, rfl, _, _, _, _, _, rfl, h, T.c_Piece, T.n_Piece_block, lkz ix_Piece_block _, _, rfl, _, _, rfl, rfl, _, rfl, ?_⟩
    unfold MPiece.has at k
    refine ite2 (fun q => ?_) (fun q => ?_)
    · rw [q, Bool.true_and] at k
      exact ⟨_, rfl, _, rfl, _, _, rfl, rfl, _, rfl, _, _, _, rfl, h, lkn nx_Piece_end _, l, p, rfl, h, _, rfl, _, _, _, _, _, rfl, h, T.c_Piece, T.n_Piece_guard, lkz ix_Piece_guard _, _, _, rfl, rfl, _, _, rfl, rfl, k⟩
    · have q : decide (p.block ≤ x) = false := by simpa using q
      rw [q, Bool.false_and] at k
      exact k
def sp_Piece_is_own (K : PySem.W.Frag) : Sp := fun vs H Q _ => ∃ (l : PL) (p : MPiece) (x : Int), vs = [.ref l.a, .int x] ∧ H l.a = some (oPiece K l p) ∧ Q (.bl (p.isOwn x)) H
theorem sc_Piece_is_own : FnScope ["self", "at"] ["self", "at"] (defScope s_Piece_is_own) := ⟨rfl, rfl, rfl, by decide +kernel, rfl, by decide +kernel, by decide +kernel⟩
theorem ok_Piece_is_own (T : Env K mg) : DOk P w K mg base 2 ("Piece", some "is_own") ["self", "at"] (sp_Piece_is_own K) := by
  obtain ⟨fd, F⟩ := T.d_Piece_is_own
  refine ⟨fd, F.ok sc_Piece_is_own (fun vs H Q E h => ?_) (fun cdv A outer s H vs Q E hr h => ?_), F.bindsN fun _ _ _ _ _ _ us hl => match us, hl with | [_, _], _ => rfl, F.kp⟩
  · obtain ⟨l, p, x, rfl, h, k⟩ := h
    rfl
  · obtain ⟨l, p, x, rfl, h, k⟩ := h
    refine ⟨_, PSs.nox (pss_one (ps_ret (pe_chain op_le op_lt (kfld (K := K) rfl (pv 0) rfl) (pv 1) (pmt0 (K := K) rfl (pv 0) T.c_Piece T.m_Piece_end (ok_Piece_end T) (hr.mono (by decide)))))), ?_⟩
    refine ⟨_, rfl, _, _, _, _, _, rfl, h, T.c_Piece, T.n_Piece_place, lkz ix_Piece_place _, _, rfl, _, _, rfl, rfl, _, rfl, ?_⟩
    unfold MPiece.isOwn at k
    refine ite2 (fun q => ?_) (fun q => ?_)
    · rw [q, Bool.true_and] at k
      exact ⟨_, rfl, _, _, _, rfl, h, lkn nx_Piece_end _, l, p, rfl, h, _, _, rfl, rfl, k⟩
    · have q : decide (p.place ≤ x) = false := by simpa using q
      rw [q, Bool.false_and] at k
      exact k
def sp_Piece_usual (K : PySem.W.Frag) : Sp := fun vs H Q _ => ∃ (l : PL) (p : MPiece) (x : Int), vs = [.ref l.a, .int x] ∧ H l.a = some (oPiece K l p) ∧ Q (.int (p.usual x)) H
theorem sc_Piece_usual : FnScope ["self", "at"] ["self", "at"] (defScope s_Piece_usual) := ⟨rfl, rfl, rfl, by decide +kernel, rfl, by decide +kernel, by decide +kernel⟩
theorem ok_Piece_usual (T : Env K mg) : DOk P w K mg base 3 ("Piece", some "usual") ["self", "at"] (sp_Piece_usual K) := by
  obtain ⟨fd, F⟩ := T.d_Piece_usual
  refine ⟨fd, F.ok sc_Piece_usual (fun vs H Q E h => ?_) (fun cdv A outer s H vs Q E hr h => ?_), F.bindsN fun _ _ _ _ _ _ us hl => match us, hl with | [_, _], _ => rfl, F.kp⟩
  · obtain ⟨l, p, x, rfl, h, k⟩ := h
    rfl
  · obtain ⟨l, p, x, rfl, h, k⟩ := h
    refine ⟨_, PSs.nox (pss_cons (ps_if (pt_not (pt_val (pmt (K := K) rfl (pv 0) T.c_Piece T.m_Piece_is_own (ok_Piece_is_own T) (hr.mono (by decide)) (pa_cons (pv 1) pa_nil))))
        (pss_one (ps_ret (pcl (K := K) rfl T.g_guard_byte (ok_guard_byte T) (hr.mono (by decide)) (pa_cons (pv 1) pa_nil))))
        pss_nil)
      (pss_cons (ps_if (pt_val (kfld (K := K) rfl (pv 0) rfl))
        (pss_one (ps_ret (pe_gi T.i_GIVEN)))
        pss_nil)
      (pss_one (ps_ret (pe_gi T.i_NEW))))), ?_⟩
    refine ⟨_, rfl, _, _, _, rfl, h, lkn nx_Piece_is_own _, _, rfl, l, p, x, rfl, h, _, rfl, ?_⟩
    unfold MPiece.usual at k
    by_cases q : p.isOwn x = true
    · rw [if_pos q] at k
      refine iteN (by show (!p.isOwn x) = false; rw [q] <;> rfl) ?_
      refine ⟨_, rfl, _, _, _, _, _, rfl, h, T.c_Piece, T.n_Piece_is_held, lkz ix_Piece_is_held _, _, rfl, ?_⟩
      by_cases q2 : p.held = true
      · rw [if_pos q2] at k
        exact iteY q2 k
      · rw [if_neg q2] at k
        exact iteN (by simpa using q2) k
    · rw [if_neg q] at k
      have q : p.isOwn x = false := by simpa using q
      refine iteY (by show (!p.isOwn x) = true; rw [q] <;> rfl) ?_
      exact ⟨_, rfl, x, rfl, k⟩
def sp_Piece_byte (K : PySem.W.Frag) : Sp := fun vs H Q _ => ∃ (l : PL) (p : MPiece) (x : Int), vs = [.ref l.a, .int x] ∧ H l.a = some (oPiece K l p) ∧ H l.o = some (.dK (dk gI p.others)) ∧ Q (.int (p.byte x)) H
theorem sc_Piece_byte : FnScope ["self", "at"] ["self", "at"] (defScope s_Piece_byte) := ⟨rfl, rfl, rfl, by decide +kernel, rfl, by decide +kernel, by decide +kernel⟩
theorem ok_Piece_byte (T : Env K mg) : DOk P w K mg base 4 ("Piece", some "byte") ["self", "at"] (sp_Piece_byte K) := by
  obtain ⟨fd, F⟩ := T.d_Piece_byte
  refine ⟨fd, F.ok sc_Piece_byte (fun vs H Q E h => ?_) (fun cdv A outer s H vs Q E hr h => ?_), F.bindsN fun _ _ _ _ _ _ us hl => match us, hl with | [_, _], _ => rfl, F.kp⟩
  · obtain ⟨l, p, x, rfl, h, ho, k⟩ := h
    rfl
  · obtain ⟨l, p, x, rfl, h, ho, k⟩ := h
    refine ⟨_, PSs.nox (pss_one (ps_ret (pe_dget2 (hu_of hr) (kfld (K := K) rfl (pv 0) rfl) (pv 1) (pmt (K := K) rfl (pv 0) T.c_Piece T.m_Piece_usual (ok_Piece_usual T) (hr.mono (by decide)) (pa_cons (pv 1) pa_nil)) ⟨rfl, rfl, rfl, rfl⟩))), ?_⟩
    refine ⟨_, rfl, _, _, _, _, _, rfl, h, T.c_Piece, T.n_Piece_others, lkz ix_Piece_others _, l.o, rfl, .inl ⟨_, .inl ho⟩, _, rfl, _, rfl, _, _, _, rfl, h, lkn nx_Piece_usual _, _, rfl, l, p, x, rfl, h, _, DGet.k (k := Sum.inl x) ho, ?_⟩
    rw [valV_dk]
    unfold MPiece.byte at k
    cases q : look p.others x with
    | none => rw [q] at k; exact k
    | some v => rw [q] at k; exact k
def sp_Piece_put (K : PySem.W.Frag) : Sp := fun vs H Q _ => ∃ (l : PL) (p p' : MPiece) (x b : Int) (F : Cells), vs = [.ref l.a, .int x, .int b] ∧ Owns H (pieC K l p + F) ∧ p.put x b = some p' ∧ ∀ H', Owns H' (pieC K l p' + F) → Q .non H'
theorem sc_Piece_put : FnScope ["self", "at", "byte"] ["self", "at", "byte"] (defScope s_Piece_put) := ⟨rfl, rfl, rfl, by decide +kernel, rfl, by decide +kernel, by decide +kernel⟩
theorem ok_Piece_put (T : Env K mg) : DOk P w K mg base 4 ("Piece", some "put") ["self", "at", "byte"] (sp_Piece_put K) := by
  obtain ⟨fd, F⟩ := T.d_Piece_put
  refine ⟨fd, F.ok sc_Piece_put (fun vs H Q E h => ?_) (fun cdv A outer s H vs Q E hr h => ?_), F.bindsN fun _ _ _ _ _ _ us hl => match us, hl with | [_, _, _], _ => rfl, F.kp⟩
  · obtain ⟨l, p, p', x, b, F, rfl, hO, hp, k⟩ := h
    rfl
  · obtain ⟨l, p, p', x, b, F, rfl, hO, hp, k⟩ := h
    refine ⟨_, PSs.nox (pss_one (ps_if (pt_cmpR op_ne (pv 2) (pmt (K := K) rfl (pv 0) T.c_Piece T.m_Piece_usual (ok_Piece_usual T) (hr.mono (by decide)) (pa_cons (pv 1) pa_nil)) (nomark _))
        (pss_one (ps_dput (hu_of hr) (kfld (K := K) rfl (pv 0) rfl) (pv 1) (pv 2) rfl))
        (pss_one (ps_if (pt_cmp (pc_din (hu_of hr) (pv 1) (kfld (K := K) rfl (pv 0) rfl)))
        (pss_one (ps_expr (pe_dpop1 (kfld (K := K) rfl (pv 0) rfl) (pv 1) ⟨rfl, rfl, rfl, rfl⟩)))
        pss_nil)))), ?_⟩
    have h := hO
    unfold pieC at h
    refine ⟨_, rfl, _, rfl, _, _, _, rfl, h.rd l.a, lkn nx_Piece_usual _, _, rfl, l, p, x, rfl, h.rd l.a, rfl, _, rfl, ?_⟩
    rw [dec_int]
    unfold MPiece.put at hp
    by_cases q : b = p.usual x
    · rw [if_neg (fun z => z q)] at hp
      refine iteN (by rw [decide_eq_true q] <;> rfl) ?_
      refine ⟨_, rfl, _, rfl, _, _, _, _, _, rfl, h.rd l.a, T.c_Piece, T.n_Piece_others, lkz ix_Piece_others _, l.o, _, rfl, DGet.k (k := Sum.inl x) (h.rd l.o), _, rfl, ?_⟩
      rw [valV_dk]
      cases q2 : look p.others x with
      | none =>
        rw [q2, if_neg (by simp)] at hp
        cases hp
        exact iteN rfl (k _ hO)
      | some v =>
        rw [q2, if_pos (show (some v).isSome = true from rfl)] at hp
        cases hp
        refine iteY rfl ?_
        refine ⟨_, rfl, _, _, _, _, _, rfl, h.rd l.a, T.c_Piece, T.n_Piece_others, lkz ix_Piece_others _, l.o, rfl, .inl ⟨_, .inl (h.rd l.o)⟩, _, rfl, _, Sum.inl x, V.int v, h.rd l.o, rfl, by rw [valV_dk, q2] <;> rfl, ?_⟩
        rw [dropK_dk]
        refine k _ ((h.up l.o (.dK (dk gI (del p.others x)))).to ?_)
        unfold pieC
        show _ = cel l.a (oPiece K l p) + cel l.o (.dK (dk gI (del p.others x))) + F
        ac_rfl
    · rw [if_pos q] at hp
      split at hp
      case isFalse => cases hp
      rename_i hlt
      cases hp
      refine iteY (by rw [decide_eq_false q] <;> rfl) ?_
      refine ⟨_, rfl, _, rfl, _, _, _, _, _, rfl, h.rd l.a, T.c_Piece, T.n_Piece_others, lkz ix_Piece_others _, _, rfl, l.o, _, rfl, dput (g := gI) (v := b) (h.rd l.o) (Nat.lt_trans hlt (by decide)), ?_⟩
      refine k _ ((h.up l.o (.dK (dk gI (put p.others x b)))).to ?_)
      unfold pieC
      show _ = cel l.a (oPiece K l p) + cel l.o (.dK (dk gI (put p.others x b))) + F
      ac_rfl
def sp_Piece_state (K : PySem.W.Frag) : Sp := fun vs H Q _ => ∃ (l : PL) (p : MPiece), vs = [.ref l.a] ∧ H l.a = some (oPiece K l p) ∧ Q (.int p.state) H
theorem sc_Piece_state : FnScope ["self"] ["self"] (defScope s_Piece_state) := ⟨rfl, rfl, rfl, by decide +kernel, rfl, by decide +kernel, by decide +kernel⟩
theorem ok_Piece_state (T : Env K mg) : DOk P w K mg base 1 ("Piece", some "state") ["self"] (sp_Piece_state K) := by
  obtain ⟨fd, F⟩ := T.d_Piece_state
  refine ⟨fd, F.ok sc_Piece_state (fun vs H Q E h => ?_) (fun cdv A outer s H vs Q E hr h => ?_), F.bindsN fun _ _ _ _ _ _ us hl => match us, hl with | [_], _ => rfl, F.kp⟩
  · obtain ⟨l, p, rfl, h, k⟩ := h
    rfl
  · obtain ⟨l, p, rfl, h, k⟩ := h
    refine ⟨_, PSs.nox (pss_one (ps_ret (pe_callTy call_int1 (by rfl) T.f_int (by decide +kernel) (pa_cons (kfld (K := K) rfl (pv 0) rfl) pa_nil)))), ?_⟩
    exact ⟨_, rfl, _, _, _, _, _, rfl, h, T.c_Piece, T.n_Piece_is_held, lkz ix_Piece_is_held _, .inr ⟨p.held, rfl, k⟩⟩
theorem put_other {p p' : MPiece} {x b : Int} (h : p.put x b = some p') : p' = { p with others := p'.others } := by
  unfold MPiece.put at h
  split at h
  · split at h <;> cases h
    rfl
  · split at h <;> cases h <;> rfl
/-- what is locked of a piece: its others -/
noncomputable def pieD (K : PySem.W.Frag) (l : PL) (p : MPiece) (ob : HO) : Cells := cel l.a (oPiece K l p) + cel l.o ob
def sp_Piece_copy_from (K : PySem.W.Frag) : Sp := fun vs H Q _ => ∃ (l l2 : PL) (p p' o : MPiece) (F : Cells), vs = [.ref l.a, .ref l2.a] ∧ POk o ∧ Owns H (pieC K l p + (pieC K l2 o + F)) ∧ p.copyFrom o = some p' ∧ ∀ H', Owns H' (pieC K l p' + (pieC K l2 o + F)) → Q .non H'
theorem sc_Piece_copy_from : FnScope ["self", "other", "at"] ["self", "other"] (defScope s_Piece_copy_from) := ⟨rfl, rfl, rfl, by decide +kernel, rfl, by decide +kernel, by decide +kernel⟩
theorem ok_Piece_copy_from (T : Env K mg) : DOk P w K mg base 5 ("Piece", some "copy_from") ["self", "other"] (sp_Piece_copy_from K) := by
  obtain ⟨fd, F⟩ := T.d_Piece_copy_from
  refine ⟨fd, F.ok sc_Piece_copy_from (fun vs H Q E h => ?_) (fun cdv A outer s H vs Q E hr h => ?_), F.bindsN fun _ _ _ _ _ _ us hl => match us, hl with | [_, _], _ => rfl, F.kp⟩
  · obtain ⟨l, l2, p, p', o, F, rfl, ok, hO, hp, k⟩ := h
    rfl
  · obtain ⟨l, l2, p, p', o, F, rfl, ok, hO, hp, k⟩ := h
    refine ⟨_, PSs.nox (pss_one (ps_lock (ps_for PassesOwn.never rfl (pi_keys (kfld (K := K) rfl (pv 1) rfl)) (pg_name (i := 2) sc_Piece_copy_from.nd rfl (Or.inl rfl))
        (pss_one (ps_if (PW.pt (pw_and (pt_val (pmt (K := K) rfl (pv 1) T.c_Piece T.m_Piece_is_own (ok_Piece_is_own T) (hr.mono (by decide)) (pa_cons (pv 2) pa_nil))) (pw_and1 (pt_cmpR op_lt (pe_op op_sub (pv 2) (kfld (K := K) rfl (pv 1) rfl)) (kfld (K := K) rfl (pv 0) rfl) (nomark _)))))
        (pss_one (ps_expr (pmt (K := K) rfl (pv 0) T.c_Piece T.m_Piece_put (ok_Piece_put T) (hr.mono (by decide)) (pa_cons (pe_op op_sub (pe_op op_add (kfld (K := K) rfl (pv 0) rfl) (pv 2)) (kfld (K := K) rfl (pv 1) rfl)) (pa_cons (pe_dget (hu_of hr) (kfld (K := K) rfl (pv 1) rfl) (pv 2) (fun _ _ => rfl)) pa_nil)))))
        pss_nil))))), ?_⟩
    have h := hO
    unfold pieC at h
    refine ⟨l2.o, _, h.rd l2.o, trivial, fun od => ?_⟩
    have h1 := h.up l2.o (.frz od (.dK (dk gI o.others)))
    have h2 : Owns _ (pieC K l p + (pieD K l2 o (.frz od (.dK (dk gI o.others))) + F)) := h1.to (by unfold pieC pieD; ac_rfl)
    refine ⟨_, rfl, _, _, _, _, _, rfl, h1.rd l2.a, T.c_Piece, T.n_Piece_others, lkz ix_Piece_others _, l2.o, od, rfl, .inl ⟨_, h1.rd l2.o, for_it walk_keys (fun i σ H' => ∃ (q : MPiece) (v : Option V), σ = [some (.ref l.a), some (.ref l2.a), v] ∧ Owns H' (pieC K l q + (pieD K l2 o (.frz od (.dK (dk gI o.others))) + F)) ∧ MPiece.copyL o q (o.others.drop i) = some p')
      ⟨p, none, rfl, h2, hp⟩ (fun i σ H' _ h => ?_) ?_ ?_⟩⟩
    · obtain ⟨_, _, _, h, _⟩ := h
      unfold pieD at h
      exact h.rd l2.o
    · rintro i y σ H' H'' hi ⟨q, v, rfl, h, ht⟩ yy
      obtain ⟨rfl, x, hx, rfl⟩ := yKeys yy
      have hm := List.mem_of_getElem? hx
      have hl : look o.others x.1 = some x.2 := look_of_mem ok.nd hm
      obtain ⟨q1, q2⟩ := List.getElem?_eq_some_iff.mp hx
      rw [List.drop_eq_getElem_cons q1, q2] at ht
      unfold MPiece.copyL at ht
      have h' := h
      unfold pieD pieC at h'
      refine ⟨_, rfl, _, _, _, rfl, h'.rd l2.a, lkn nx_Piece_is_own _, _, rfl, l2, o, x.1, rfl, h'.rd l2.a, _, rfl, ?_⟩
      by_cases c1 : o.isOwn x.1 = true
      · refine iteY c1 ?_
        refine ⟨_, rfl, _, rfl, _, _, _, _, _, rfl, h'.rd l2.a, T.c_Piece, T.n_Piece_place, lkz ix_Piece_place _, _, _, rfl, rfl, _, rfl, _, _, _, _, _, rfl, h'.rd l.a, T.c_Piece, T.n_Piece_size, lkz ix_Piece_size _, _, _, rfl, rfl, _, rfl, ?_⟩
        by_cases c2 : x.1 - o.place < q.size
        · rw [if_pos ⟨c1, c2⟩] at ht
          obtain ⟨q3, hq3, ht⟩ := Option.bind_eq_some_iff.mp ht
          refine iteYd c2 ?_
          refine ⟨_, rfl, _, _, _, rfl, h'.rd l.a, lkn nx_Piece_put _, _, rfl, _, _, _, _, _, rfl, h'.rd l.a, T.c_Piece, T.n_Piece_place, lkz ix_Piece_place _, _, rfl, _, _, rfl, rfl, _, rfl, _, _, _, _, _, rfl, h'.rd l2.a, T.c_Piece, T.n_Piece_place, lkz ix_Piece_place _, _, _, rfl, rfl, _, rfl, _, _, _, _, _, rfl, h'.rd l2.a, T.c_Piece, T.n_Piece_others, lkz ix_Piece_others _, _, rfl, l2.o, _, rfl, dgetF (g := gI) (h'.rd l2.o) hl, ?_⟩
          exact ⟨l, q, q3, _, _, _, rfl, h, hq3, fun H3 h3 => ⟨q3, _, rfl, h3, ht⟩⟩
        · rw [if_neg fun z => c2 z.2] at ht
          exact iteNd c2 ⟨q, _, rfl, h, ht⟩
      · rw [if_neg fun z => c1 z.1] at ht
        exact iteN (by simpa using c1) (iteF ⟨q, _, rfl, h, ht⟩)
    · rintro σ H' ⟨q, v, rfl, h, ht⟩
      rw [dk_length, List.drop_length] at ht
      cases ht
      unfold pieD at h
      refine ⟨h.rd l2.o, k _ ((h.up l2.o (.dK (dk gI o.others))).to ?_)⟩
      unfold pieC
      ac_rfl
end
end GK
end
section
set_option Elab.async false
set_option linter.all false
set_option maxRecDepth 100000
set_option maxHeartbeats 4000000
namespace GK
open PySem PySem.Spec PyProof.Rows L2
theorem keysV {β : Type} {g : Int → β → V} {l : List (Int × β)} : ((dk g l).map fun kv => kV kv.1) = (l.map (·.1)).map V.int := by
  unfold dk
  rw [List.map_map, List.map_map]
  rfl
theorem isort_length (l : List Int) : (isort l).length = l.length := by
  unfold isort
  rw [List.length_mergeSort]
/-- the others of a piece that's being held, behind so many of its places -/
def holdAt (p : MPiece) (i : Nat) : List (Int × Int) := p.others.filter fun x => !(p.isOwn x.1 && decide (x.1 ∈ (p.others.map (·.1)).take i))
theorem holdAt_zero (p : MPiece) : holdAt p 0 = p.others := by
  unfold holdAt
  refine List.filter_eq_self.mpr fun x _ => ?_
  rw [List.take_zero, decide_eq_false (by simp), Bool.and_false]
  rfl
theorem holdAt_all (p : MPiece) : holdAt p p.others.length = p.others.filter fun x => !p.isOwn x.1 := by
  unfold holdAt
  refine List.filter_congr fun x hx => ?_
  have : x.1 ∈ (p.others.map (·.1)).take p.others.length := by
    rw [show p.others.length = (p.others.map (·.1)).length by rw [List.length_map], List.take_length]
    exact List.mem_map.mpr ⟨x, hx, rfl⟩
  rw [decide_eq_true this, Bool.and_true]
theorem holdAt_keep {p : MPiece} {i : Nat} {k : Int} (h : (p.others.map (·.1))[i]? = some k) (ho : p.isOwn k = false) : holdAt p (i + 1) = holdAt p i := by
  unfold holdAt
  refine List.filter_congr fun x _ => ?_
  rw [take_more h]
  by_cases e : x.1 = k
  · rw [e, ho]
    rfl
  · have : (x.1 ∈ (p.others.map (·.1)).take i ++ [k]) ↔ (x.1 ∈ (p.others.map (·.1)).take i) := by simp [e]
    rw [decide_eq_decide.mpr this]
theorem holdAt_del {p : MPiece} {i : Nat} {k : Int} (h : (p.others.map (·.1))[i]? = some k) (ho : p.isOwn k = true) : holdAt p (i + 1) = del (holdAt p i) k := by
  unfold holdAt del
  rw [List.filter_filter]
  refine List.filter_congr fun x _ => ?_
  rw [take_more h]
  by_cases e : x.1 = k
  · rw [e, ho, decide_eq_true (show k ∈ (p.others.map (·.1)).take i ++ [k] by simp), decide_eq_false (show ¬ k ≠ k by simp)]
    rfl
  · have : (x.1 ∈ (p.others.map (·.1)).take i ++ [k]) ↔ (x.1 ∈ (p.others.map (·.1)).take i) := by simp [e]
    rw [decide_eq_decide.mpr this, decide_eq_true e, Bool.true_and]
theorem holdAt_look {p : MPiece} (ok : POk p) {i : Nat} {k : Int} (h : (p.others.map (·.1))[i]? = some k) : ∃ v, look (holdAt p i) k = some v := by
  obtain ⟨x, hx, rfl⟩ : ∃ x, p.others[i]? = some x ∧ x.1 = k := by
    rw [List.getElem?_map] at h
    obtain ⟨x, h1, h2⟩ := Option.map_eq_some_iff.mp h
    exact ⟨x, h1, h2⟩
  have hm : x ∈ holdAt p i := by
    unfold holdAt
    refine List.mem_filter.mpr ⟨List.mem_of_getElem? hx, ?_⟩
    have : x.1 ∉ (p.others.map (·.1)).take i := fun w => by
      obtain ⟨j, hj, e⟩ := List.mem_iff_getElem.mp w
      rw [List.length_take] at hj
      rw [List.getElem_take] at e
      obtain ⟨h1, h2⟩ := List.getElem?_eq_some_iff.mp h
      have := (List.getElem_inj ok.nd).mp (e.trans h2.symm)
      omega
    rw [decide_eq_false this, Bool.and_false]
    rfl
  exact look_of_key (List.mem_map.mpr ⟨x, hm, rfl⟩)
section
variable {P : Program} {w : World} {K : PySem.W.Frag} {mg : Str → Option Value} {base : Heap}
def sp_Piece_hold (K : PySem.W.Frag) : Sp := fun vs H Q _ => ∃ (l : PL) (p : MPiece) (who : Int) (F : Cells), vs = [.ref l.a, .int who] ∧ POk p ∧ Owns H (pieC K l p + F) ∧ ∀ H', Owns H' (pieC K l (p.hold who) + F) → Q .non H'
theorem sc_Piece_hold : FnScope ["self", "who", "at"] ["self", "who"] (defScope s_Piece_hold) := ⟨rfl, rfl, rfl, by decide +kernel, rfl, by decide +kernel, by decide +kernel⟩
theorem ok_Piece_hold (T : Env K mg) : DOk P w K mg base 3 ("Piece", some "hold") ["self", "who"] (sp_Piece_hold K) := by
  obtain ⟨fd, F⟩ := T.d_Piece_hold
  refine ⟨fd, F.ok sc_Piece_hold (fun vs H Q E h => ?_) (fun cdv A outer s H vs Q E hr h => ?_), F.bindsN fun _ _ _ _ _ _ us hl => match us, hl with | [_, _], _ => rfl, F.kp⟩
  · obtain ⟨l, p, who, F, rfl, ok, hO, k⟩ := h
    rfl
  · obtain ⟨l, p, who, F, rfl, ok, hO, k⟩ := h
    refine ⟨_, PSs.nox (pss_cons (ps_for PassesOwn.never rfl (kpi (K := K) rfl (pe_callTy (call_listD rfl) (by rfl) T.f_list (by decide +kernel) (pa_cons (kfld (K := K) rfl (pv 0) rfl) pa_nil))) (pg_name (i := 2) sc_Piece_hold.nd rfl (Or.inl rfl))
        (pss_one (ps_if (pt_val (pmt (K := K) rfl (pv 0) T.c_Piece T.m_Piece_is_own (ok_Piece_is_own T) (hr.mono (by decide)) (pa_cons (pv 2) pa_nil)))
        (pss_one (ps_expr (pe_dpop1 (kfld (K := K) rfl (pv 0) rfl) (pv 2) ⟨rfl, rfl, rfl, rfl⟩)))
        pss_nil)))
      (pss_cons (ksfld (K := K) rfl (pv 0) pe_bl rfl)
      (pss_one (ksfld (K := K) rfl (pv 0) (pv 1) rfl)))), ?_⟩
    have h := hO
    unfold pieC at h
    refine ⟨_, rfl, _, _, _, _, _, rfl, h.rd l.a, T.c_Piece, T.n_Piece_others, lkz ix_Piece_others _, l.o, _, rfl, .inl (h.rd l.o), fun q hq => ?_⟩
    rw [keysV]
    have h1 := hO.new hq (o := .lst ((p.others.map (·.1)).map V.int))
    refine ⟨q, rfl, ⟨_, SqL.of h1.get⟩, for_list (K := K) (a := q) (xs := (p.others.map (·.1)).map V.int) (fun i σ H' => ∃ v : Option V, σ = [some (.ref l.a), some (.int who), v] ∧ Owns H' (cel q (.lst ((p.others.map (·.1)).map V.int)) + (pieC K l { p with others := holdAt p i } + F)))
      ⟨none, rfl, by rw [holdAt_zero]; exact h1⟩ (fun i σ H' _ h => ?_) ?_ ?_⟩
    · obtain ⟨_, _, h⟩ := h
      exact SqL.of h.get
    · rintro i y σ H' hi ⟨v, rfl, h⟩
      obtain ⟨z, hz, rfl⟩ := get_ints hi
      have h' := h
      unfold pieC at h'
      refine ⟨_, rfl, _, _, _, rfl, h'.rd l.a, lkn nx_Piece_is_own _, _, rfl, l, { p with others := holdAt p i }, z, rfl, h'.rd l.a, _, rfl, ?_⟩
      by_cases c : p.isOwn z = true
      · refine iteY c ?_
        obtain ⟨v2, hv⟩ := holdAt_look ok hz
        refine ⟨_, rfl, _, _, _, _, _, rfl, h'.rd l.a, T.c_Piece, T.n_Piece_others, lkz ix_Piece_others _, l.o, rfl, .inl ⟨_, .inl (h'.rd l.o)⟩, _, rfl, _, Sum.inl z, V.int v2, h'.rd l.o, rfl, by rw [valV_dk, hv] <;> rfl, ?_⟩
        rw [dropK_dk, ← holdAt_del hz c]
        refine ⟨_, rfl, (h'.up l.o (.dK (dk gI (holdAt p (i + 1))))).to ?_⟩
        unfold pieC
        show _ = _ + (cel l.a (oPiece K l p) + cel l.o (.dK (dk gI (holdAt p (i + 1)))) + F)
        ac_rfl
      · refine iteN (show p.isOwn z = false by simpa using c) ⟨_, rfl, ?_⟩
        rw [holdAt_keep hz (by simpa using c)]
        exact h
    · rintro σ H' ⟨v, rfl, h⟩
      rw [List.length_map, List.length_map, holdAt_all] at h
      have h' := h
      unfold pieC at h'
      -- self.is_held = True; self.giver = who
      refine ⟨_, rfl, _, _, _, _, rfl, h'.rd l.a, T.c_Piece, T.n_Piece_is_held, lnz (by decide) _, ?_⟩
      have h2 : Owns _ (cel l.a (oPiece K l { p with held := true }) + _) := h'.upF l.a ix_Piece_is_held (.bl true)
      refine ⟨_, rfl, _, rfl, _, _, _, _, rfl, h2.rd l.a, T.c_Piece, T.n_Piece_giver, lnz (by decide) _, ?_⟩
      have h3 : Owns _ (cel l.a (oPiece K l { p with held := true, giver := who }) + _) := h2.upF l.a ix_Piece_giver (.int who)
      refine k _ (h3.sub (e := cel q (.lst ((p.others.map (·.1)).map V.int))) ?_)
      unfold pieC
      show _ = cel l.a (oPiece K l { p with held := true, giver := who }) + cel l.o (.dK (dk gI (p.others.filter fun x => !p.isOwn x.1))) + F + _
      ac_rfl
/-- a list made of those of a piece's places that a test lets through -/
theorem lcO (l : PL) (p : MPiece) (ok : POk p) {F : Cells} {H : Hp} {od : Obj} (hO : Owns H (pieD K l p (.frz od (.dK (dk gI p.others))) + F)) (b : Int → Bool) {j : Nat} {tt : TT} {vs : List Nat} {σ : L2.St} {D : Addr} {Qd : Hp → Prop} (hD : H D = none)
    (hj : ∀ x : V, (((wipe σ vs).set j (some x))[j]? = some (some x))) (hw : ∀ x, wipe ((wipe σ vs).set j (some x)) vs = wipe σ vs)
    (ht : ∀ a H, Owns H (pieD K l p (.frz od (.dK (dk gI p.others))) + F) → ∀ Q : Bool → Hp → Prop, Q (b a) H → tt ((wipe σ vs).set j (some (.int a))) H Q)
    (hd : ∀ H, Owns H (cel D (.lst (((p.others.map (·.1)).filter b).map V.int)) + (pieD K l p (.frz od (.dK (dk gI p.others))) + F)) → Qd H) :
    ∃ W : Nat → Nat → Hp → Prop, (∃ m, W 0 m (upd H D (.lst []))) ∧ ∀ i m H, W i m H →
      ((Itk l.o od (dk gI p.others)).stop i H ∧ Qd H) ∨ ((Itk l.o od (dk gI p.others)).go i H ∧ ∃ Nx : Hp → Prop, (∀ H', Nx H' → ∃ m', m' < m ∧ W (i + 1) m' H') ∧ ∀ x H', (Itk l.o od (dk gI p.others)).yld i H x H' → gName j x (wipe σ vs) H' fun σ2 H2 => wipe σ2 vs = wipe σ vs ∧ tt σ2 H2 fun b H3 =>
        if b = true then tVar j σ2 H3 fun y H4 => ∃ acc, H4 D = some (.lst acc) ∧ acc.length < sizeLine ∧ Nx (upd H4 D (.lst (acc ++ [y]))) else Nx H3) := by
  refine lcA p.others (fun a => .int a.1) walk_keys dk_length.symm yKeysA hO (fun H h => by unfold pieD at h; exact h.rd l.o) (fun a => b a.1) (fun a => .int a.1) hD (by rw [dk_length]; exact Nat.le_trans ok.le (by decide)) hw (fun a _ H h Q q => ht a.1 H h Q q) (fun a _ _ H h Q q => ⟨_, hj _, q⟩) fun H h => hd H ?_
  have e : List.map (fun (a : Int × Int) => V.int a.1) (List.filter (fun a => b a.1) p.others) = ((p.others.map (·.1)).filter b).map V.int := by
    rw [List.filter_map, List.map_map]
    rfl
  rw [e] at h
  exact h
def sp_wrong (K : PySem.W.Frag) (f : MPiece → List Int) : Sp := fun vs H Q _ => ∃ (l : PL) (p : MPiece) (F : Cells), vs = [.ref l.a] ∧ POk p ∧ Owns H (pieC K l p + F) ∧ ∀ H' q, Owns H' (cel q (.lst ((f p).map V.int)) + (pieC K l p + F)) → Q (.ref q) H'
theorem sc_Piece_wrong_front : FnScope ["self", "at"] ["self"] (defScope s_Piece_wrong_front) := ⟨rfl, rfl, rfl, by decide +kernel, rfl, by decide +kernel, by decide +kernel⟩
theorem ok_Piece_wrong_front (T : Env K mg) : DOk P w K mg base 1 ("Piece", some "wrong_front") ["self"] (sp_wrong K MPiece.wrongFront) := by
  obtain ⟨fd, F⟩ := T.d_Piece_wrong_front
  refine ⟨fd, F.ok sc_Piece_wrong_front (fun vs H Q E h => ?_) (fun cdv A outer s H vs Q E hr h => ?_), F.bindsN fun _ _ _ _ _ _ us hl => match us, hl with | [_], _ => rfl, F.kp⟩
  · obtain ⟨l, p, F, rfl, ok, hO, k⟩ := h
    rfl
  · obtain ⟨l, p, F, rfl, ok, hO, k⟩ := h
    refine ⟨_, PSs.nox (pss_one (ps_ret (pe_callB cr_sortedI (by rfl) T.f_sorted (by decide +kernel) (pa_cons (pe_lock (pe_lc (own := [("at", 1)]) (g := gName 1) rfl sc_Piece_wrong_front.nd (pi_keys (kfld (K := K) rfl (pv 0) rfl)) (blkOk_by (own := [("at", 1)]) (N := ["self", "at"]) (sc := defScope s_Piece_wrong_front) (by decide +kernel)) (fun _ _ _ _ _ => pg_name (i := 1) sc_Piece_wrong_front.nd rfl (Or.inl rfl)) (fun _ _ _ _ _ => pts_one (pt_cmpR op_lt (pv 1) (kfld (K := K) rfl (pv 0) rfl) (nomark _))) (fun _ _ _ _ _ => (pv 1)))) pa_nil)))), ?_⟩
    have h := hO
    unfold pieC at h
    refine ⟨l.o, _, h.rd l.o, trivial, fun od => ?_⟩
    have h1 : Owns _ (pieD K l p (.frz od (.dK (dk gI p.others))) + F) := (h.up l.o (.frz od (.dK (dk gI p.others)))).to (by unfold pieD; ac_rfl)
    have h1' := h1
    unfold pieD at h1'
    refine ⟨_, rfl, _, _, _, _, _, rfl, h1'.rd l.a, T.c_Piece, T.n_Piece_others, lkz ix_Piece_others _, l.o, od, rfl, .inl ⟨_, h1'.rd l.o, fun D hD => lcO l p ok h1 (fun x => decide (x < p.place)) hD (fun _ => rfl) (fun _ => rfl) (fun a H h Q q => ?_) (fun H h => ?_)⟩⟩
    · unfold pieD at h
      exact ⟨_, rfl, _, rfl, _, _, _, _, _, rfl, h.rd l.a, T.c_Piece, T.n_Piece_place, lkz ix_Piece_place _, _, _, rfl, rfl, _, rfl, q⟩
    have h2 := h
    unfold pieD at h2
    refine ⟨h2.rd l.o, ?_⟩
    have h3 := h2.up l.o (.dK (dk gI p.others))
    refine ⟨D, _, rfl, SqL.of (h3.rd D), fun ys q hp hs hq => ?_⟩
    obtain rfl := isort_of hp hs
    refine k _ q ((h3.new hq (o := .lst ((p.wrongFront).map V.int))).sub (e := cel D (.lst (((p.others.map (·.1)).filter fun x => decide (x < p.place)).map V.int))) ?_)
    unfold pieC
    ac_rfl
theorem sc_Piece_wrong_back : FnScope ["self", "at"] ["self"] (defScope s_Piece_wrong_back) := ⟨rfl, rfl, rfl, by decide +kernel, rfl, by decide +kernel, by decide +kernel⟩
theorem ok_Piece_wrong_back (T : Env K mg) : DOk P w K mg base 2 ("Piece", some "wrong_back") ["self"] (sp_wrong K MPiece.wrongBack) := by
  obtain ⟨fd, F⟩ := T.d_Piece_wrong_back
  refine ⟨fd, F.ok sc_Piece_wrong_back (fun vs H Q E h => ?_) (fun cdv A outer s H vs Q E hr h => ?_), F.bindsN fun _ _ _ _ _ _ us hl => match us, hl with | [_], _ => rfl, F.kp⟩
  · obtain ⟨l, p, F, rfl, ok, hO, k⟩ := h
    rfl
  · obtain ⟨l, p, F, rfl, ok, hO, k⟩ := h
    refine ⟨_, PSs.nox (pss_one (ps_ret (pe_callB cr_sortedI (by rfl) T.f_sorted (by decide +kernel) (pa_cons (pe_lock (pe_lc (own := [("at", 1)]) (g := gName 1) rfl sc_Piece_wrong_back.nd (pi_keys (kfld (K := K) rfl (pv 0) rfl)) (blkOk_by (own := [("at", 1)]) (N := ["self", "at"]) (sc := defScope s_Piece_wrong_back) (by decide +kernel)) (fun _ _ _ _ _ => pg_name (i := 1) sc_Piece_wrong_back.nd rfl (Or.inl rfl)) (fun _ _ _ _ _ => pts_one (pt_cmpR op_ge (pv 1) (pmt0 (K := K) rfl (pv 0) T.c_Piece T.m_Piece_end (ok_Piece_end T) (hr.mono (by decide))) (nomark _))) (fun _ _ _ _ _ => (pv 1)))) pa_nil)))), ?_⟩
    have h := hO
    unfold pieC at h
    refine ⟨l.o, _, h.rd l.o, trivial, fun od => ?_⟩
    have h1 : Owns _ (pieD K l p (.frz od (.dK (dk gI p.others))) + F) := (h.up l.o (.frz od (.dK (dk gI p.others)))).to (by unfold pieD; ac_rfl)
    have h1' := h1
    unfold pieD at h1'
    refine ⟨_, rfl, _, _, _, _, _, rfl, h1'.rd l.a, T.c_Piece, T.n_Piece_others, lkz ix_Piece_others _, l.o, od, rfl, .inl ⟨_, h1'.rd l.o, fun D hD => lcO l p ok h1 (fun x => decide (p.end_ ≤ x)) hD (fun _ => rfl) (fun _ => rfl) (fun a H h Q q => ?_) (fun H h => ?_)⟩⟩
    · unfold pieD at h
      exact ⟨_, rfl, _, rfl, _, _, _, rfl, h.rd l.a, lkn nx_Piece_end _, l, p, rfl, h.rd l.a, _, _, rfl, rfl, _, rfl, q⟩
    have h2 := h
    unfold pieD at h2
    refine ⟨h2.rd l.o, ?_⟩
    have h3 := h2.up l.o (.dK (dk gI p.others))
    refine ⟨D, _, rfl, SqL.of (h3.rd D), fun ys q hp hs hq => ?_⟩
    obtain rfl := isort_of hp hs
    refine k _ q ((h3.new hq (o := .lst ((p.wrongBack).map V.int))).sub (e := cel D (.lst (((p.others.map (·.1)).filter fun x => decide (p.end_ ≤ x)).map V.int))) ?_)
    unfold pieC
    ac_rfl
theorem sc_Piece_wrong_bytes : FnScope ["self", "at"] ["self"] (defScope s_Piece_wrong_bytes) := ⟨rfl, rfl, rfl, by decide +kernel, rfl, by decide +kernel, by decide +kernel⟩
theorem ok_Piece_wrong_bytes (T : Env K mg) : DOk P w K mg base 3 ("Piece", some "wrong_bytes") ["self"] (sp_wrong K MPiece.wrongBytes) := by
  obtain ⟨fd, F⟩ := T.d_Piece_wrong_bytes
  refine ⟨fd, F.ok sc_Piece_wrong_bytes (fun vs H Q E h => ?_) (fun cdv A outer s H vs Q E hr h => ?_), F.bindsN fun _ _ _ _ _ _ us hl => match us, hl with | [_], _ => rfl, F.kp⟩
  · obtain ⟨l, p, F, rfl, ok, hO, k⟩ := h
    rfl
  · obtain ⟨l, p, F, rfl, ok, hO, k⟩ := h
    refine ⟨_, PSs.nox (pss_cons (ps_if (pt_not (pt_val (kfld (K := K) rfl (pv 0) rfl)))
        (pss_one (ps_ret (pe_lst pa_nil)))
        pss_nil)
      (pss_one (ps_ret (pe_callB cr_sortedI (by rfl) T.f_sorted (by decide +kernel) (pa_cons (pe_lock (pe_lc (own := [("at", 1)]) (g := gName 1) rfl sc_Piece_wrong_bytes.nd (pi_keys (kfld (K := K) rfl (pv 0) rfl)) (blkOk_by (own := [("at", 1)]) (N := ["self", "at"]) (sc := defScope s_Piece_wrong_bytes) (by decide +kernel)) (fun _ _ _ _ _ => pg_name (i := 1) sc_Piece_wrong_bytes.nd rfl (Or.inl rfl)) (fun _ _ _ _ _ => pts_one (pt_val (pmt (K := K) rfl (pv 0) T.c_Piece T.m_Piece_is_own (ok_Piece_is_own T) (hr.mono (by decide)) (pa_cons (pv 1) pa_nil)))) (fun _ _ _ _ _ => (pv 1)))) pa_nil))))), ?_⟩
    have h := hO
    unfold pieC at h
    refine ⟨_, rfl, _, _, _, _, _, rfl, h.rd l.a, T.c_Piece, T.n_Piece_is_held, lkz ix_Piece_is_held _, _, rfl, ?_⟩
    by_cases c : p.held = true
    case neg =>
      refine iteY (by show (!p.held) = true; rw [show p.held = false by simpa using c] <;> rfl) ⟨Nat.zero_le _, fun q hq => ?_⟩
      have g := hO.new hq (o := .lst [])
      refine k _ q ?_
      unfold MPiece.wrongBytes
      rw [if_neg c]
      exact g
    refine iteN (by show (!p.held) = false; rw [c] <;> rfl) ?_
    refine ⟨l.o, _, h.rd l.o, trivial, fun od => ?_⟩
    have h1 : Owns _ (pieD K l p (.frz od (.dK (dk gI p.others))) + F) := (h.up l.o (.frz od (.dK (dk gI p.others)))).to (by unfold pieD; ac_rfl)
    have h1' := h1
    unfold pieD at h1'
    refine ⟨_, rfl, _, _, _, _, _, rfl, h1'.rd l.a, T.c_Piece, T.n_Piece_others, lkz ix_Piece_others _, l.o, od, rfl, .inl ⟨_, h1'.rd l.o, fun D hD => lcO l p ok h1 (fun x => p.isOwn x) hD (fun _ => rfl) (fun _ => rfl) (fun a H h Q q => ?_) (fun H h => ?_)⟩⟩
    · unfold pieD at h
      exact ⟨_, rfl, _, _, _, rfl, h.rd l.a, lkn nx_Piece_is_own _, _, rfl, l, p, a, rfl, h.rd l.a, _, rfl, q⟩
    have h2 := h
    unfold pieD at h2
    refine ⟨h2.rd l.o, ?_⟩
    have h3 := h2.up l.o (.dK (dk gI p.others))
    refine ⟨D, _, rfl, SqL.of (h3.rd D), fun ys q hp hs hq => ?_⟩
    obtain rfl := isort_of hp hs
    have ew : p.wrongBytes = isort ((p.others.map (·.1)).filter fun x => p.isOwn x) := by
      unfold MPiece.wrongBytes
      rw [if_pos c]
    refine k _ q ((h3.new hq (o := .lst ((isort ((p.others.map (·.1)).filter fun x => p.isOwn x)).map V.int))).sub (e := cel D (.lst (((p.others.map (·.1)).filter fun x => p.isOwn x).map V.int))) ?_)
    rw [ew]
    unfold pieC
    ac_rfl
theorem wf_len (p : MPiece) : p.wrongFront.length ≤ p.others.length := by
  unfold MPiece.wrongFront
  rw [isort_length]
  exact Nat.le_trans (List.length_filter_le _ _) (Nat.le_of_eq (List.length_map _))
theorem wb_len (p : MPiece) : p.wrongBack.length ≤ p.others.length := by
  unfold MPiece.wrongBack
  rw [isort_length]
  exact Nat.le_trans (List.length_filter_le _ _) (Nat.le_of_eq (List.length_map _))
theorem wy_len (p : MPiece) : p.wrongBytes.length ≤ p.others.length := by
  unfold MPiece.wrongBytes
  split
  · rw [isort_length]
    exact Nat.le_trans (List.length_filter_le _ _) (Nat.le_of_eq (List.length_map _))
  · exact Nat.zero_le _
def sp_Piece_put_right (K : PySem.W.Frag) : Sp := fun vs H Q _ => ∃ (l : PL) (p p' : MPiece) (F : Cells), vs = [.ref l.a] ∧ POk p ∧ Owns H (pieC K l p + F) ∧ p.putRight = some p' ∧ ∀ H', Owns H' (pieC K l p' + F) → Q .non H'
theorem sc_Piece_put_right : FnScope ["self", "at"] ["self"] (defScope s_Piece_put_right) := ⟨rfl, rfl, rfl, by decide +kernel, rfl, by decide +kernel, by decide +kernel⟩
theorem ok_Piece_put_right (T : Env K mg) : DOk P w K mg base 4 ("Piece", some "put_right") ["self"] (sp_Piece_put_right K) := by
  obtain ⟨fd, F⟩ := T.d_Piece_put_right
  refine ⟨fd, F.ok sc_Piece_put_right (fun vs H Q E h => ?_) (fun cdv A outer s H vs Q E hr h => ?_), F.bindsN fun _ _ _ _ _ _ us hl => match us, hl with | [_], _ => rfl, F.kp⟩
  · obtain ⟨l, p, p', F, rfl, ok, hO, hp, k⟩ := h
    rfl
  · obtain ⟨l, p, p', F, rfl, ok, hO, hp, k⟩ := h
    refine ⟨_, PSs.nox (pss_one (ps_for PassesOwn.never rfl (kpi (K := K) rfl (pe_op op_cat (pe_op op_cat (pmt0 (K := K) rfl (pv 0) T.c_Piece T.m_Piece_wrong_front (ok_Piece_wrong_front T) (hr.mono (by decide))) (pmt0 (K := K) rfl (pv 0) T.c_Piece T.m_Piece_wrong_back (ok_Piece_wrong_back T) (hr.mono (by decide)))) (pmt0 (K := K) rfl (pv 0) T.c_Piece T.m_Piece_wrong_bytes (ok_Piece_wrong_bytes T) (hr.mono (by decide))))) (pg_name (i := 1) sc_Piece_put_right.nd rfl (Or.inl rfl))
        (pss_one (ps_expr (pe_dpop1 (kfld (K := K) rfl (pv 0) rfl) (pv 1) ⟨rfl, rfl, rfl, rfl⟩))))), ?_⟩
    obtain ⟨o, ho, rfl⟩ := Option.map_eq_some_iff.mp hp
    have h := hO
    unfold pieC at h
    have z1 := wf_len p
    have z2 := wb_len p
    have z3 := wy_len p
    have z := ok.le
    refine ⟨_, rfl, _, _, _, rfl, h.rd l.a, lkn nx_Piece_wrong_front _, l, p, F, rfl, ok, hO, fun H1 a1 h1 => ?_⟩
    have h1' := h1
    unfold pieC at h1'
    refine ⟨_, rfl, _, _, _, rfl, h1'.rd l.a, lkn nx_Piece_wrong_back _, l, p, cel a1 (.lst (p.wrongFront.map V.int)) + F, rfl, ok, h1.to (by ac_rfl), fun H2 a2 h2 => ?_⟩
    refine ⟨a1, a2, _, _, rfl, rfl, h2.rd a1, h2.rd a2, by rw [List.length_map, List.length_map]; exact le_lim (Nat.le_trans (show _ ≤ 8000000 by omega) (by decide)), fun a3 ha3 => ?_⟩
    have h3 := h2.new ha3 (o := .lst (p.wrongFront.map V.int ++ p.wrongBack.map V.int))
    have h3' := h3
    unfold pieC at h3'
    refine ⟨_, rfl, _, _, _, rfl, h3'.rd l.a, lkn nx_Piece_wrong_bytes _, l, p, cel a3 (.lst (p.wrongFront.map V.int ++ p.wrongBack.map V.int)) + F, rfl, ok, h3.sub (e := cel a1 (.lst (p.wrongFront.map V.int)) + cel a2 (.lst (p.wrongBack.map V.int))) (by ac_rfl), fun H4 a4 h4 => ?_⟩
    refine ⟨a3, a4, _, _, rfl, rfl, h4.rd a3, h4.rd a4, by rw [List.length_append, List.length_map, List.length_map, List.length_map]; exact le_lim (Nat.le_trans (show _ ≤ 12000000 by omega) (by decide)), fun a5 ha5 => ?_⟩
    have e5 : p.wrongFront.map V.int ++ p.wrongBack.map V.int ++ p.wrongBytes.map V.int = (p.wrongFront ++ p.wrongBack ++ p.wrongBytes).map V.int := by rw [List.map_append, List.map_append]
    rw [e5]
    have h5 := h4.new ha5 (o := .lst ((p.wrongFront ++ p.wrongBack ++ p.wrongBytes).map V.int))
    refine ⟨a5, rfl, ⟨_, SqL.of h5.get⟩, for_list (K := K) (a := a5) (xs := (p.wrongFront ++ p.wrongBack ++ p.wrongBytes).map V.int) (fun i σ H' => ∃ (v : Option V) (o1 : List (Int × Int)), σ = [some (.ref l.a), v] ∧ Owns H' (cel a5 (.lst ((p.wrongFront ++ p.wrongBack ++ p.wrongBytes).map V.int)) + (pieC K l { p with others := o1 } + F)) ∧ popAll ((p.wrongFront ++ p.wrongBack ++ p.wrongBytes).drop i) o1 = some o)
      ⟨none, p.others, rfl, h5.sub (e := cel a4 (.lst (p.wrongBytes.map V.int)) + cel a3 (.lst (p.wrongFront.map V.int ++ p.wrongBack.map V.int))) (by
        show _ = _ + (pieC K l p + F) + _
        ac_rfl), ho⟩ (fun i σ H' _ h => ?_) ?_ ?_⟩
    · obtain ⟨_, _, _, h, _⟩ := h
      exact SqL.of h.get
    · rintro i y σ H' hi ⟨v, o1, rfl, h, ht⟩
      obtain ⟨x, hx, rfl⟩ := get_ints hi
      obtain ⟨q1, q2⟩ := List.getElem?_eq_some_iff.mp hx
      rw [List.drop_eq_getElem_cons q1, q2] at ht
      unfold popAll at ht
      split at ht
      case isFalse => cases ht
      rename_i hs
      obtain ⟨v2, hv⟩ := Option.isSome_iff_exists.mp hs
      have h' := h
      unfold pieC at h'
      refine ⟨_, rfl, _, _, _, _, _, rfl, h'.rd l.a, T.c_Piece, T.n_Piece_others, lkz ix_Piece_others _, l.o, rfl, .inl ⟨_, .inl (h'.rd l.o)⟩, _, rfl, _, Sum.inl x, V.int v2, h'.rd l.o, rfl, by rw [valV_dk, hv] <;> rfl, ?_⟩
      rw [dropK_dk]
      refine ⟨_, del o1 x, rfl, (h'.up l.o (.dK (dk gI (del o1 x)))).to ?_, ht⟩
      unfold pieC
      show _ = _ + (cel l.a (oPiece K l p) + cel l.o (.dK (dk gI (del o1 x))) + F)
      ac_rfl
    · rintro σ H' ⟨v, o1, rfl, h, ht⟩
      rw [List.length_map, List.drop_length] at ht
      cases ht
      exact k _ h.r
end
end GK
end
section
set_option Elab.async false
set_option linter.all false
set_option maxRecDepth 100000
set_option maxHeartbeats 4000000
namespace GK
open PySem PySem.Spec PyProof.Rows L2
abbrev Find4 : Type := Int × Int × Int × Int
def quadV (x : Find4) : List V := [.int x.1, .int x.2.1, .int x.2.2.1, .int x.2.2.2]
noncomputable def quadC : List Addr → List Find4 → Cells
  | r :: rs, x :: xs => cel r (.tup (quadV x)) + quadC rs xs
  | _, _ => nil
theorem quadC_snoc (r : Addr) (x : Find4) : ∀ (rs : List Addr) (xs : List Find4), rs.length = xs.length → quadC (rs ++ [r]) (xs ++ [x]) = quadC rs xs + cel r (.tup (quadV x))
  | [], [], _ => by
    show cel r _ + nil = nil + cel r _
    rw [add_nil, nil_add]
  | a :: rs, y :: xs, h => by
    show cel a _ + quadC (rs ++ [r]) (xs ++ [x]) = cel a _ + quadC rs xs + cel r _
    rw [quadC_snoc r x rs xs (by simpa using h), cells_assoc]
  | [], _ :: _, h => by simp at h
  | _ :: _, [], h => by simp at h
theorem quadC_mid : ∀ (rs : List Addr) (xs : List Find4) (i : Nat), rs.length = xs.length → (h : i < rs.length) → ∃ x, xs[i]? = some x ∧ ∃ e, quadC rs xs = cel (rs[i]'h) (.tup (quadV x)) + e
  | r :: rs, x :: xs, 0, _, _ => ⟨x, rfl, _, rfl⟩
  | r :: rs, x :: xs, i + 1, hl, h => by
    obtain ⟨y, h1, e, h2⟩ := quadC_mid rs xs i (by simpa using hl) (by simpa using h)
    refine ⟨y, h1, cel r (.tup (quadV x)) + e, ?_⟩
    show cel r (.tup (quadV x)) + quadC rs xs = cel (rs[i]'(by simpa using h)) _ + _
    rw [h2]
    ac_rfl
  | _ :: _, [], _, hl, _ => by simp at hl
  | [], _, _, _, h => absurd h (by simp)
/-- a list of quadruples at an address -/
noncomputable def foundC (fd : Addr) (ts : List Addr) (fs : List Find4) : Cells := cel fd (.lst (ts.map V.ref)) + quadC ts fs
theorem cons_or {α : Type} (l : List α) : l = [] ∨ ∃ y ys, l = y :: ys := by
  cases l with
  | nil => exact .inl rfl
  | cons y ys => exact .inr ⟨y, ys, rfl⟩
def findF (p : MPiece) : List Find4 := match p.wrongFront.getLast? with
  | none => []
  | some x => [(4, p.place - x, (p.wrongFront.length : Int), p.who)]
def findB (p : MPiece) : List Find4 := match p.wrongBack with
  | [] => []
  | x :: _ => [(5, x - p.end_ + 1, (p.wrongBack.length : Int), p.who)]
def findY (p : MPiece) : List Find4 := match p.wrongBytes with
  | [] => []
  | x :: _ => [(6, x - p.place, (p.wrongBytes.length : Int), p.giver)]
theorem findings_eq (p : MPiece) : p.findings = findF p ++ (findB p ++ findY p) := rfl
section
variable {P : Program} {w : World} {K : PySem.W.Frag} {mg : Str → Option Value} {base : Heap}
def sp_Piece_findings (K : PySem.W.Frag) : Sp := fun vs H Q _ => ∃ (l : PL) (p : MPiece) (F : Cells), vs = [.ref l.a] ∧ POk p ∧ Owns H (pieC K l p + F) ∧
  ∀ H' fd ts, ts.length = p.findings.length → Owns H' (foundC fd ts p.findings + (pieC K l p + F)) → Q (.ref fd) H'
theorem sc_Piece_findings : FnScope ["self", "found", "front", "back", "own"] ["self"] (defScope s_Piece_findings) := ⟨rfl, rfl, rfl, by decide +kernel, rfl, by decide +kernel, by decide +kernel⟩
theorem ok_Piece_findings (T : Env K mg) : DOk P w K mg base 4 ("Piece", some "findings") ["self"] (sp_Piece_findings K) := by
  obtain ⟨fd, F⟩ := T.d_Piece_findings
  refine ⟨fd, F.ok sc_Piece_findings (fun vs H Q E h => ?_) (fun cdv A outer s H vs Q E hr h => ?_), F.bindsN fun _ _ _ _ _ _ us hl => match us, hl with | [_], _ => rfl, F.kp⟩
  · obtain ⟨l, p, F, rfl, ok, hO, k⟩ := h
    rfl
  · obtain ⟨l, p, F, rfl, ok, hO, k⟩ := h
    refine ⟨_, PSs.nox (pss_cons (ps_set (i := 1) sc_Piece_findings.nd rfl (Or.inl rfl) (pe_lst pa_nil))
      (pss_cons (ps_set (i := 2) sc_Piece_findings.nd rfl (Or.inl rfl) (pmt0 (K := K) rfl (pv 0) T.c_Piece T.m_Piece_wrong_front (ok_Piece_wrong_front T) (hr.mono (by decide))))
      (pss_cons (ps_set (i := 3) sc_Piece_findings.nd rfl (Or.inl rfl) (pmt0 (K := K) rfl (pv 0) T.c_Piece T.m_Piece_wrong_back (ok_Piece_wrong_back T) (hr.mono (by decide))))
      (pss_cons (ps_set (i := 4) sc_Piece_findings.nd rfl (Or.inl rfl) (pmt0 (K := K) rfl (pv 0) T.c_Piece T.m_Piece_wrong_bytes (ok_Piece_wrong_bytes T) (hr.mono (by decide))))
      (Evl.pss_cut (ps_if (pt_cmpR op_gt (pe_callB call_len_seq (by rfl) T.f_len PySem.boot_len (pa_cons (pv 2) pa_nil)) pe_int (nomark _))
        (pss_one (ps_expr (pe_bm PySem.F.plainAttrs_list PySem.F.slot_list_append PySem.F.type_list_append mt_append (pv 1) (pa_cons (pe_tup (pa_cons (pe_gi T.i_FRONT_WRONG) (pa_cons (pe_op op_sub (kfld (K := K) rfl (pv 0) rfl) (pe_ix (kix (K := K) rfl) (pv 2) (pe_un un_neg pe_int) (fun _ _ => rfl))) (pa_cons (pe_callB call_len_seq (by rfl) T.f_len PySem.boot_len (pa_cons (pv 2) pa_nil)) (pa_cons (kfld (K := K) rfl (pv 0) rfl) pa_nil))))) pa_nil))))
        pss_nil)
      (Evl.pss_cut (ps_if (pt_cmpR op_gt (pe_callB call_len_seq (by rfl) T.f_len PySem.boot_len (pa_cons (pv 3) pa_nil)) pe_int (nomark _))
        (pss_one (ps_expr (pe_bm PySem.F.plainAttrs_list PySem.F.slot_list_append PySem.F.type_list_append mt_append (pv 1) (pa_cons (pe_tup (pa_cons (pe_gi T.i_BACK_WRONG) (pa_cons (pe_op op_add (pe_op op_sub (pe_ix (kix (K := K) rfl) (pv 3) pe_int (fun _ _ => rfl)) (pmt0 (K := K) rfl (pv 0) T.c_Piece T.m_Piece_end (ok_Piece_end T) (hr.mono (by decide)))) pe_int) (pa_cons (pe_callB call_len_seq (by rfl) T.f_len PySem.boot_len (pa_cons (pv 3) pa_nil)) (pa_cons (kfld (K := K) rfl (pv 0) rfl) pa_nil))))) pa_nil))))
        pss_nil)
      (Evl.pss_cut (ps_if (pt_cmpR op_gt (pe_callB call_len_seq (by rfl) T.f_len PySem.boot_len (pa_cons (pv 4) pa_nil)) pe_int (nomark _))
        (pss_one (ps_expr (pe_bm PySem.F.plainAttrs_list PySem.F.slot_list_append PySem.F.type_list_append mt_append (pv 1) (pa_cons (pe_tup (pa_cons (pe_gi T.i_BYTES_WRONG) (pa_cons (pe_op op_sub (pe_ix (kix (K := K) rfl) (pv 4) pe_int (fun _ _ => rfl)) (kfld (K := K) rfl (pv 0) rfl)) (pa_cons (pe_callB call_len_seq (by rfl) T.f_len PySem.boot_len (pa_cons (pv 4) pa_nil)) (pa_cons (kfld (K := K) rfl (pv 0) rfl) pa_nil))))) pa_nil))))
        pss_nil)
      (pss_one (ps_ret (pv 1)))))))))), ?_⟩
    refine ⟨Nat.zero_le _, fun fd hfd => ?_⟩
    have h0 := hO.new hfd (o := .lst [])
    have h0' := h0
    unfold pieC at h0'
    refine ⟨_, rfl, _, _, _, rfl, h0'.rd l.a, lkn nx_Piece_wrong_front _, l, p, _, rfl, ok, h0.to (by
      show _ = pieC K l p + (cel fd (.lst []) + F)
      ac_rfl), fun H1 a1 h1 => ?_⟩
    have h1' := h1
    unfold pieC at h1'
    refine ⟨_, rfl, _, _, _, rfl, h1'.rd l.a, lkn nx_Piece_wrong_back _, l, p, _, rfl, ok, h1.to (by
      show _ = pieC K l p + (cel a1 (.lst (p.wrongFront.map V.int)) + (cel fd (.lst []) + F))
      ac_rfl), fun H2 a2 h2 => ?_⟩
    have h2' := h2
    unfold pieC at h2'
    refine ⟨_, rfl, _, _, _, rfl, h2'.rd l.a, lkn nx_Piece_wrong_bytes _, l, p, _, rfl, ok, h2.to (by
      show _ = pieC K l p + (cel a2 (.lst (p.wrongBack.map V.int)) + (cel a1 (.lst (p.wrongFront.map V.int)) + (cel fd (.lst []) + F)))
      ac_rfl), fun H3 a3 h3 => ?_⟩
    -- what stands at each of the cuts
    let Mid : List Find4 → L2.St → Hp → Prop := fun fs σ H' => ∃ ts : List Addr, σ = [some (.ref l.a), some (.ref fd), some (.ref a1), some (.ref a2), some (.ref a3)] ∧ ts.length = fs.length ∧
      Owns H' (cel fd (.lst (ts.map V.ref)) + (quadC ts fs + (pieC K l p + (cel a1 (.lst (p.wrongFront.map V.int)) + (cel a2 (.lst (p.wrongBack.map V.int)) + (cel a3 (.lst (p.wrongBytes.map V.int)) + F))))))
    have start : Mid [] [some (.ref l.a), some (.ref fd), some (.ref a1), some (.ref a2), some (.ref a3)] H3 := ⟨[], rfl, rfl, h3.to (by
      show _ = cel fd (.lst []) + (nil + _)
      rw [nil_add]
      ac_rfl)⟩
    -- one more is found
    have add : ∀ (fs : List Find4) (x : Find4) (H' : Hp) (ts : List Addr) (t : Addr), H' t = none → fs.length < 10 → ts.length = fs.length →
        Owns H' (cel fd (.lst (ts.map V.ref)) + (quadC ts fs + (pieC K l p + (cel a1 (.lst (p.wrongFront.map V.int)) + (cel a2 (.lst (p.wrongBack.map V.int)) + (cel a3 (.lst (p.wrongBytes.map V.int)) + F)))))) →
        ∃ xs, upd H' t (.tup (quadV x)) fd = some (.lst xs) ∧ xs.length < sizeLine ∧ Mid (fs ++ [x]) [some (.ref l.a), some (.ref fd), some (.ref a1), some (.ref a2), some (.ref a3)] (upd (upd H' t (.tup (quadV x))) fd (.lst (xs ++ [.ref t]))) := fun fs x H' ts t ht hlt hl h => by
      have g := h.new ht (o := .tup (quadV x))
      refine ⟨_, g.rd fd, by rw [List.length_map, hl]; exact Nat.lt_trans hlt (by decide), ts ++ [t], rfl, by rw [List.length_append, List.length_append, hl] <;> rfl, (g.up fd (.lst (ts.map V.ref ++ [.ref t]))).to ?_⟩
      rw [quadC_snoc t x ts fs hl, List.map_append]
      show _ = cel fd (.lst (ts.map V.ref ++ [.ref t])) + _
      ac_rfl
    refine ⟨Mid (findF p), ?_, ?_⟩
    · obtain ⟨ts, _, hl, h⟩ := start
      have h' := h
      unfold pieC at h'
      refine ⟨_, rfl, _, _, rfl, .inl (SqL.of (h'.rd a1)), _, _, rfl, rfl, _, rfl, ?_⟩
      rw [List.length_map]
      rcases List.eq_nil_or_concat p.wrongFront with e | ⟨ys, y, e⟩
      · refine iteN (by rw [e] <;> rfl) ?_
        have ef : findF p = [] := by unfold findF; rw [e] <;> rfl
        rw [ef]
        exact ⟨ts, rfl, hl, h⟩
      · rw [List.concat_eq_append] at e
        refine iteYd (by rw [e, List.length_append]; show (0 : Int) < ((ys.length + 1 : Nat) : Int); omega) ?_
        have ef : findF p = [(4, p.place - y, (p.wrongFront.length : Int), p.who)] := by
          unfold findF
          rw [show p.wrongFront.getLast? = some y by rw [e, List.getLast?_concat]]
        have ga : H3 a1 = some (.lst (ys.map V.int ++ [V.int y])) := by
          have g := h'.rd a1
          rw [e, List.map_append] at g
          exact g
        refine ⟨_, rfl, .inl ⟨rfl, _, SqL.of (h'.rd fd)⟩, _, rfl, _, _, _, _, _, rfl, h'.rd l.a, T.c_Piece, T.n_Piece_place, lkz ix_Piece_place _, _, rfl, _, rfl, a1, _, _, V.int y, rfl, rfl, SqL.of ga, atI_last _ _, _, _, rfl, rfl, _, rfl, _, _, rfl, .inl (SqL.of (h'.rd a1)), _, rfl, _, _, _, _, _, rfl, h'.rd l.a, T.c_Piece, T.n_Piece_who, lkz ix_Piece_who _, (by show 4 ≤ sizeLine; decide), fun t ht => ?_⟩
        rw [List.length_map]
        obtain ⟨xs, g1, g2, g3⟩ := add [] (4, p.place - y, (p.wrongFront.length : Int), p.who) H3 ts t ht (by decide) hl h
        rw [ef]
        exact ⟨fd, xs, _, rfl, rfl, g1, g2, g3⟩
    rintro _ H4 ⟨ts, rfl, hl, h⟩
    refine ⟨Mid (findF p ++ findB p), ?_, ?_⟩
    · have h' := h
      unfold pieC at h'
      refine ⟨_, rfl, _, _, rfl, .inl (SqL.of (h'.rd a2)), _, _, rfl, rfl, _, rfl, ?_⟩
      rw [List.length_map]
      rcases cons_or p.wrongBack with e | ⟨y, ys, e⟩
      case inl =>
        refine iteN (by rw [e] <;> rfl) ?_
        have ef : findB p = [] := by unfold findB; rw [e]
        rw [ef, List.append_nil]
        exact ⟨ts, rfl, hl, h⟩
      case inr =>
        refine iteYd (by rw [e]; show (0 : Int) < ((ys.length + 1 : Nat) : Int); omega) ?_
        have ef : findB p = [(5, y - p.end_ + 1, (p.wrongBack.length : Int), p.who)] := by
          unfold findB
          rw [e]
        have ga : H4 a2 = some (.lst (V.int y :: ys.map V.int)) := by
          have g := h'.rd a2
          rw [e] at g
          exact g
        refine ⟨_, rfl, .inl ⟨rfl, _, SqL.of (h'.rd fd)⟩, _, rfl, a2, _, _, V.int y, rfl, rfl, SqL.of ga, at_of (j := 0) rfl rfl, _, rfl, _, _, _, rfl, h'.rd l.a, lkn nx_Piece_end _, l, p, rfl, h'.rd l.a, _, _, rfl, rfl, _, _, rfl, rfl, _, rfl, _, _, rfl, .inl (SqL.of (h'.rd a2)), _, rfl, _, _, _, _, _, rfl, h'.rd l.a, T.c_Piece, T.n_Piece_who, lkz ix_Piece_who _, (by show 4 ≤ sizeLine; decide), fun t ht => ?_⟩
        rw [List.length_map]
        have hf : (findF p).length < 10 := by
          unfold findF
          cases p.wrongFront.getLast? <;> simp
        obtain ⟨xs, g1, g2, g3⟩ := add (findF p) (5, y - p.end_ + 1, (p.wrongBack.length : Int), p.who) H4 ts t ht hf hl h
        rw [ef]
        exact ⟨fd, xs, _, rfl, rfl, g1, g2, g3⟩
    clear h hl ts H4
    rintro _ H4 ⟨ts, rfl, hl, h⟩
    refine ⟨Mid (findF p ++ findB p ++ findY p), ?_, ?_⟩
    · have h' := h
      unfold pieC at h'
      refine ⟨_, rfl, _, _, rfl, .inl (SqL.of (h'.rd a3)), _, _, rfl, rfl, _, rfl, ?_⟩
      rw [List.length_map]
      rcases cons_or p.wrongBytes with e | ⟨y, ys, e⟩
      case inl =>
        refine iteN (by rw [e] <;> rfl) ?_
        have ef : findY p = [] := by unfold findY; rw [e]
        rw [ef, List.append_nil]
        exact ⟨ts, rfl, hl, h⟩
      case inr =>
        refine iteYd (by rw [e]; show (0 : Int) < ((ys.length + 1 : Nat) : Int); omega) ?_
        have ef : findY p = [(6, y - p.place, (p.wrongBytes.length : Int), p.giver)] := by
          unfold findY
          rw [e]
        have ga : H4 a3 = some (.lst (V.int y :: ys.map V.int)) := by
          have g := h'.rd a3
          rw [e] at g
          exact g
        refine ⟨_, rfl, .inl ⟨rfl, _, SqL.of (h'.rd fd)⟩, _, rfl, a3, _, _, V.int y, rfl, rfl, SqL.of ga, at_of (j := 0) rfl rfl, _, rfl, _, _, _, _, _, rfl, h'.rd l.a, T.c_Piece, T.n_Piece_place, lkz ix_Piece_place _, _, _, rfl, rfl, _, rfl, _, _, rfl, .inl (SqL.of (h'.rd a3)), _, rfl, _, _, _, _, _, rfl, h'.rd l.a, T.c_Piece, T.n_Piece_giver, lkz ix_Piece_giver _, (by show 4 ≤ sizeLine; decide), fun t ht => ?_⟩
        rw [List.length_map]
        have hf : (findF p ++ findB p).length < 10 := by
          rw [List.length_append]
          have h1 : (findF p).length ≤ 1 := by
            unfold findF
            cases p.wrongFront.getLast? <;> simp
          have h2 : (findB p).length ≤ 1 := by
            unfold findB
            cases p.wrongBack <;> simp
          omega
        obtain ⟨xs, g1, g2, g3⟩ := add (findF p ++ findB p) (6, y - p.place, (p.wrongBytes.length : Int), p.giver) H4 ts t ht hf hl h
        rw [ef]
        exact ⟨fd, xs, _, rfl, rfl, g1, g2, g3⟩
    clear h hl ts H4
    rintro _ H4 ⟨ts, rfl, hl, h⟩
    rw [List.append_assoc, ← findings_eq] at hl h
    refine ⟨_, rfl, k _ fd ts hl (h.sub (e := cel a1 (.lst (p.wrongFront.map V.int)) + (cel a2 (.lst (p.wrongBack.map V.int)) + cel a3 (.lst (p.wrongBytes.map V.int)))) ?_)⟩
    unfold foundC
    ac_rfl
end
end GK
end
section
set_option Elab.async false
set_option linter.all false
set_option maxRecDepth 100000
set_option maxHeartbeats 4000000
namespace GK
open PySem PySem.Spec PyProof.Rows L2
section
variable {P : Program} {w : World} {K : PySem.W.Frag} {mg : Str → Option Value} {base : Heap}
def sp_is_from (K : PySem.W.Frag) : Sp := fun vs H Q _ => ∃ (x lo hi : Int), vs = [.int x, .int lo, .int hi] ∧ Q (.bl (isFrom x lo hi)) H
theorem sc_is_from : FnScope ["number", "low", "high"] ["number", "low", "high"] (defScope s_is_from) := ⟨rfl, rfl, rfl, by decide +kernel, rfl, by decide +kernel, by decide +kernel⟩
theorem ok_is_from (T : Env K mg) : DOk P w K mg base 1 ("is_from", none) ["number", "low", "high"] (sp_is_from K) := by
  obtain ⟨fd, F⟩ := T.d_is_from
  refine ⟨fd, F.ok sc_is_from (fun vs H Q E h => ?_) (fun cdv A outer s H vs Q E hr h => ?_), F.bindsN fun _ _ _ _ _ _ us hl => match us, hl with | [_, _, _], _ => rfl, F.kp⟩
  · obtain ⟨x, lo, hi, rfl, k⟩ := h
    rfl
  · obtain ⟨x, lo, hi, rfl, k⟩ := h
    refine ⟨_, PSs.nox (pss_one (ps_ret (pe_chain op_le op_le (pv 1) (pv 0) (pv 2)))), ?_⟩
    refine ⟨_, rfl, _, rfl, _, _, rfl, rfl, _, rfl, ?_⟩
    unfold isFrom at k
    refine ite2 (fun q => ?_) (fun q => ?_)
    · rw [q, Bool.true_and] at k
      exact ⟨_, rfl, _, _, rfl, rfl, k⟩
    · have q : decide (lo ≤ x) = false := by simpa using q
      rw [q, Bool.false_and] at k
      exact k
def sp_is_who (K : PySem.W.Frag) : Sp := fun vs H Q _ => ∃ (x : Int), vs = [.int x] ∧ Q (.bl (isWho x)) H
theorem sc_is_who : FnScope ["who"] ["who"] (defScope s_is_who) := ⟨rfl, rfl, rfl, by decide +kernel, rfl, by decide +kernel, by decide +kernel⟩
theorem ok_is_who (T : Env K mg) : DOk P w K mg base 2 ("is_who", none) ["who"] (sp_is_who K) := by
  obtain ⟨fd, F⟩ := T.d_is_who
  refine ⟨fd, F.ok sc_is_who (fun vs H Q E h => ?_) (fun cdv A outer s H vs Q E hr h => ?_), F.bindsN fun _ _ _ _ _ _ us hl => match us, hl with | [_], _ => rfl, F.kp⟩
  · obtain ⟨x, rfl, k⟩ := h
    rfl
  · obtain ⟨x, rfl, k⟩ := h
    refine ⟨_, PSs.nox (pss_one (ps_ret (pcl (K := K) rfl T.g_is_from (ok_is_from T) (hr.mono (by decide)) (pa_cons (pv 0) (pa_cons pe_int (pa_cons (pe_op op_sub (pe_op op_oneShl pe_int pe_int) pe_int) pa_nil)))))), ?_⟩
    exact ⟨_, rfl, 32, rfl, rfl, by decide, _, _, rfl, rfl, x, 0, 4294967295, rfl, k⟩
def sp_is_place (K : PySem.W.Frag) : Sp := fun vs H Q _ => ∃ (x : Int), vs = [.int x] ∧ Q (.bl (isPlace x)) H
theorem sc_is_place : FnScope ["place"] ["place"] (defScope s_is_place) := ⟨rfl, rfl, rfl, by decide +kernel, rfl, by decide +kernel, by decide +kernel⟩
theorem ok_is_place (T : Env K mg) : DOk P w K mg base 2 ("is_place", none) ["place"] (sp_is_place K) := by
  obtain ⟨fd, F⟩ := T.d_is_place
  refine ⟨fd, F.ok sc_is_place (fun vs H Q E h => ?_) (fun cdv A outer s H vs Q E hr h => ?_), F.bindsN fun _ _ _ _ _ _ us hl => match us, hl with | [_], _ => rfl, F.kp⟩
  · obtain ⟨x, rfl, k⟩ := h
    rfl
  · obtain ⟨x, rfl, k⟩ := h
    refine ⟨_, PSs.nox (pss_one (ps_ret (pcl (K := K) rfl T.g_is_from (ok_is_from T) (hr.mono (by decide)) (pa_cons (pv 0) (pa_cons pe_int (pa_cons (pe_op op_sub (pe_op op_oneShl pe_int pe_int) pe_int) pa_nil)))))), ?_⟩
    exact ⟨_, rfl, 40, rfl, rfl, by decide, _, _, rfl, rfl, x, 0, 1099511627775, rfl, k⟩
def sp_is_size (K : PySem.W.Frag) : Sp := fun vs H Q _ => ∃ (x : Int), vs = [.int x] ∧ Q (.bl (isSize x)) H
theorem sc_is_size : FnScope ["size"] ["size"] (defScope s_is_size) := ⟨rfl, rfl, rfl, by decide +kernel, rfl, by decide +kernel, by decide +kernel⟩
theorem ok_is_size (T : Env K mg) : DOk P w K mg base 2 ("is_size", none) ["size"] (sp_is_size K) := by
  obtain ⟨fd, F⟩ := T.d_is_size
  refine ⟨fd, F.ok sc_is_size (fun vs H Q E h => ?_) (fun cdv A outer s H vs Q E hr h => ?_), F.bindsN fun _ _ _ _ _ _ us hl => match us, hl with | [_], _ => rfl, F.kp⟩
  · obtain ⟨x, rfl, k⟩ := h
    rfl
  · obtain ⟨x, rfl, k⟩ := h
    refine ⟨_, PSs.nox (pss_one (ps_ret (pcl (K := K) rfl T.g_is_from (ok_is_from T) (hr.mono (by decide)) (pa_cons (pv 0) (pa_cons pe_int (pa_cons (pe_op op_oneShl pe_int pe_int) pa_nil)))))), ?_⟩
    exact ⟨_, rfl, 20, rfl, rfl, by decide, x, 0, 1048576, rfl, k⟩
def sp_is_begin (K : PySem.W.Frag) : Sp := fun vs H Q _ => ∃ (size chunk spare guard hold : Int), vs = [.int size, .int chunk, .int spare, .int guard, .int hold] ∧ Q (.bl (isBegin size chunk spare guard hold)) H
theorem sc_is_begin : FnScope ["size", "chunk", "spare", "guard", "hold"] ["size", "chunk", "spare", "guard", "hold"] (defScope s_is_begin) := ⟨rfl, rfl, rfl, by decide +kernel, rfl, by decide +kernel, by decide +kernel⟩
theorem ok_is_begin (T : Env K mg) : DOk P w K mg base 2 ("is_begin", none) ["size", "chunk", "spare", "guard", "hold"] (sp_is_begin K) := by
  obtain ⟨fd, F⟩ := T.d_is_begin
  refine ⟨fd, F.ok sc_is_begin (fun vs H Q E h => ?_) (fun cdv A outer s H vs Q E hr h => ?_), F.bindsN fun _ _ _ _ _ _ us hl => match us, hl with | [_, _, _, _, _], _ => rfl, F.kp⟩
  · obtain ⟨size, chunk, spare, guard, hold, rfl, k⟩ := h
    rfl
  · obtain ⟨size, chunk, spare, guard, hold, rfl, k⟩ := h
    refine ⟨_, PSs.nox (pss_cons (ps_if (PW.pt (pw_or (pt_not (pt_val (pcl (K := K) rfl T.g_is_from (ok_is_from T) (hr.mono (by decide)) (pa_cons (pv 0) (pa_cons pe_int (pa_cons pe_int pa_nil)))))) (pw_or (pt_not (pt_val (pcl (K := K) rfl T.g_is_from (ok_is_from T) (hr.mono (by decide)) (pa_cons (pv 1) (pa_cons pe_int (pa_cons pe_int pa_nil)))))) (pw_or1 (pt_not (pt_val (pcl (K := K) rfl T.g_is_from (ok_is_from T) (hr.mono (by decide)) (pa_cons (pv 2) (pa_cons pe_int (pa_cons pe_int pa_nil))))))))))
        (pss_one (ps_ret pe_bl))
        pss_nil)
      (pss_one (ps_ret (pe_and (pcl (K := K) rfl T.g_is_from (ok_is_from T) (hr.mono (by decide)) (pa_cons (pv 3) (pa_cons pe_int (pa_cons pe_int pa_nil)))) (pe_and (pe_cmpR op_eq (pe_op op_andM (pv 3) pe_int) pe_int (nomark _)) (pe_one (pcl (K := K) rfl T.g_is_from (ok_is_from T) (hr.mono (by decide)) (pa_cons (pv 4) (pa_cons pe_int (pa_cons (pe_op op_oneShl pe_int pe_int) pa_nil)))))))))), ?_⟩
    unfold isBegin at k
    refine ⟨_, rfl, size, 1, 16384, rfl, _, rfl, ?_⟩
    by_cases q1 : isFrom size 1 16384 = true
    case neg =>
      have q1 : isFrom size 1 16384 = false := by simpa using q1
      rw [q1] at k ⊢
      exact iteY rfl (iteY rfl k)
    rw [q1] at k ⊢
    refine iteN rfl ⟨_, rfl, chunk, 1, 1024, rfl, _, rfl, ?_⟩
    by_cases q2 : isFrom chunk 1 1024 = true
    case neg =>
      have q2 : isFrom chunk 1 1024 = false := by simpa using q2
      rw [q2] at k ⊢
      exact iteY rfl (iteY rfl k)
    rw [q2] at k ⊢
    refine iteN rfl ⟨_, rfl, spare, 0, 16384, rfl, _, rfl, ?_⟩
    by_cases q3 : isFrom spare 0 16384 = true
    case neg =>
      have q3 : isFrom spare 0 16384 = false := by simpa using q3
      rw [q3] at k ⊢
      exact iteY rfl k
    rw [q3] at k ⊢
    refine iteN rfl ?_
    refine ⟨_, rfl, guard, 16, 4096, rfl, _, rfl, ?_⟩
    by_cases q4 : isFrom guard 16 4096 = true
    case neg =>
      have q4 : isFrom guard 16 4096 = false := by simpa using q4
      rw [q4] at k ⊢
      exact iteN rfl k
    rw [q4] at k ⊢
    refine iteY rfl ⟨_, rfl, guard, 4, rfl, rfl, rfl, _, rfl, ?_⟩
    rw [dec_int]
    have e16 : ((2 : Int) ^ 4) = 16 := by decide
    rw [e16]
    by_cases q5 : guard % 16 = 0
    case neg =>
      rw [decide_eq_false q5] at k ⊢
      exact iteN rfl k
    rw [decide_eq_true q5] at k ⊢
    exact iteY rfl ⟨_, rfl, 24, rfl, rfl, by decide, hold, 0, 16777216, rfl, k⟩
def sp_front_of (K : PySem.W.Frag) : Sp := fun vs H Q _ => ∃ (guard multiple : Int), vs = [.int guard, .int multiple] ∧ 0 < multiple ∧ multiple ≤ 1000000 ∧ Q (.int (frontOf guard multiple)) H
theorem sc_front_of : FnScope ["guard", "multiple"] ["guard", "multiple"] (defScope s_front_of) := ⟨rfl, rfl, rfl, by decide +kernel, rfl, by decide +kernel, by decide +kernel⟩
theorem ok_front_of (T : Env K mg) : DOk P w K mg base 1 ("front_of", none) ["guard", "multiple"] (sp_front_of K) := by
  obtain ⟨fd, F⟩ := T.d_front_of
  refine ⟨fd, F.ok sc_front_of (fun vs H Q E h => ?_) (fun cdv A outer s H vs Q E hr h => ?_), F.bindsN fun _ _ _ _ _ _ us hl => match us, hl with | [_, _], _ => rfl, F.kp⟩
  · obtain ⟨guard, multiple, rfl, h0, h1, k⟩ := h
    rfl
  · obtain ⟨guard, multiple, rfl, h0, h1, k⟩ := h
    refine ⟨_, PSs.nox (pss_one (ps_ret (pe_op op_mul (pe_op op_fdivN (pe_op op_sub (pe_op op_add (pv 0) (pv 1)) pe_int) (pv 1)) (pv 1)))), ?_⟩
    exact ⟨_, rfl, _, rfl, _, _, rfl, rfl, _, _, rfl, rfl, _, rfl, _, _, rfl, rfl, ⟨by omega, by omega⟩, _, rfl, _, _, rfl, rfl, .inr ⟨by omega, by omega⟩, k⟩
/-! ### House -/
structure HLay where
  dx : Addr
  bl : Addr
  pd : Addr
  wt : Addr
  kd : Addr
  pl : Int → PL
def HLay.ins (L : HLay) (k : Int) (x : PL) : HLay := { L with pl := fun j => if j = k then x else L.pl j }
abbrev vHouse (L : HLay) (h : MHouse) : List V := [.ref L.bl, .int h.guard, .int h.mostHeld, .ref L.pd, .ref L.wt, .int h.next, .ref L.kd]
abbrev oHouse (K : PySem.W.Frag) (L : HLay) (h : MHouse) : HO := .ins (He.ga K "House") L.dx (k_House.zip (vHouse L h))
noncomputable def plC (K : PySem.W.Frag) (L : HLay) (x : Int × MPiece) : Cells := pieC K (L.pl x.1) x.2
abbrev gP (L : HLay) : Int → MPiece → V := fun k _ => .ref (L.pl k).a
noncomputable def houseC (K : PySem.W.Frag) (a : Addr) (L : HLay) (h : MHouse) : Cells := cel a (oHouse K L h) + (cel L.pd (.dK (dk (gP L) h.pieces)) + (cel L.wt (.lst (h.waiting.map V.int)) + (cel L.kd (.lst (h.kinds.map V.int)) + (sumC (plC K L) h.pieces + sumC (plC K L) h.dead))))
structure HOk (h : MHouse) : Prop where
  nd : ((h.pieces ++ h.dead).map (·.1)).Nodup
  lp : h.pieces.length ≤ LIM
  lw : h.waiting.length ≤ LIM
  pok : ∀ x ∈ h.pieces, POk x.2
theorem HOk.np {h : MHouse} (ok : HOk h) : (h.pieces.map (·.1)).Nodup := by
  have := ok.nd
  rw [List.map_append] at this
  exact (List.nodup_append.mp this).1
def HouseL (K : PySem.W.Frag) (a : Addr) (L : HLay) (h : MHouse) (c : Cells) : Prop := HOk h ∧ ∃ BL cb, BlocksL K L.bl BL h.bl cb ∧ c = houseC K a L h + cb
def sp_House_init (K : PySem.W.Frag) : Sp := fun vs H Q _ => ∃ (a dx : Addr) (size chunk spare guard hold : Int) (F : Cells), vs = [.ref a, .int size, .int chunk, .int spare, .int guard, .int hold] ∧ 0 ≤ size ∧ size ≤ 1000000 ∧ Owns H (cel a (.ins (He.ga K "House") dx []) + F) ∧
  ∀ (H' : Hp) (L : HLay) (c : Cells), HouseL K a L (MHouse.new size chunk spare guard hold) c → Owns H' (c + F) → Q .non H'
theorem sc_House_init : FnScope ["self", "size", "chunk", "spare", "guard", "hold", "k"] ["self", "size", "chunk", "spare", "guard", "hold"] (defScope s_House_init) := ⟨rfl, rfl, rfl, by decide +kernel, rfl, by decide +kernel, by decide +kernel⟩
theorem ok_House_init (T : Env K mg) : DOk P w K mg base 3 ("House", some "__init__") ["self", "size", "chunk", "spare", "guard", "hold"] (sp_House_init K) := by
  obtain ⟨fd, F⟩ := T.d_House_init
  refine ⟨fd, F.ok sc_House_init (fun vs H Q E h => ?_) (fun cdv A outer s H vs Q E hr h => ?_), F.bindsN fun _ _ _ _ _ _ us hl => match us, hl with | [_, _, _, _, _, _], _ => rfl, F.kp⟩
  · obtain ⟨a, dx, size, chunk, spare, guard, hold, F, rfl, hs0, hs1, hO, k⟩ := h
    rfl
  · obtain ⟨a, dx, size, chunk, spare, guard, hold, F, rfl, hs0, hs1, hO, k⟩ := h
    refine ⟨_, PSs.nox (pss_cons (ksfld (K := K) rfl (pv 0) (pmk (K := K) rfl T.k_Blocks T.g_Blocks (ok_Blocks_init T) (hr.mono (by decide)) (pa_cons (pmk (K := K) rfl T.k_Pages T.g_Pages (ok_Pages_init T) (hr.mono (by decide)) (pa_cons (pv 1) (pa_cons (pv 2) (pa_cons (pv 3) pa_nil)))) pa_nil)) rfl)
      (pss_cons (ksfld (K := K) rfl (pv 0) (pv 4) rfl)
      (pss_cons (ksfld (K := K) rfl (pv 0) (pv 5) rfl)
      (pss_cons (ksfld (K := K) rfl (pv 0) pe_dnewK rfl)
      (pss_cons (ksfld (K := K) rfl (pv 0) (pe_lst pa_nil) rfl)
      (pss_cons (ksfld (K := K) rfl (pv 0) pe_int rfl)
      (pss_one (ksfld (K := K) rfl (pv 0) (pe_lc (own := [("k", 6)]) (g := gName 6) rfl sc_House_init.nd (pi_range1 (by rfl) T.f_range (pa_cons (pe_gi T.i_KINDS) pa_nil)) (blkOk_by (own := [("k", 6)]) (N := ["self", "size", "chunk", "spare", "guard", "hold", "k"]) (sc := defScope s_House_init) (by decide +kernel)) (fun _ _ _ _ _ => pg_name (i := 6) sc_House_init.nd rfl (Or.inl rfl)) (fun _ _ _ _ _ => pts_nil) (fun _ _ _ _ _ => pe_int)) rfl)))))))), ?_⟩
    -- self.blocks = Blocks(Pages(size, chunk, spare))
    refine ⟨_, rfl, _, rfl, _, rfl, fun pa dp hpa hdp ne => ?_⟩
    have g1 := hO.mk (u := .own pa) (o := .ins (He.ga K "Pages") dp []) hpa hdp ne
    refine ⟨pa, dp, size, chunk, spare, _, rfl, hs0, hs1, g1, fun H2 cp hP g2 => ⟨rfl, fun ba db hba hdb ne2 => ?_⟩⟩
    have g3 := g2.mk (u := .own ba) (o := .ins (He.ga K "Blocks") db []) hba hdb ne2
    refine ⟨ba, db, pa, _, cp, _, rfl, hP, g3, fun H4 BL cb hB g4 => ⟨rfl, ?_⟩⟩
    refine ⟨_, rfl, _, _, _, _, rfl, g4.rd a, T.c_House, T.n_House_blocks, (by show 0 < 1000; decide), ?_⟩
    have h1 := g4.up a (.ins (He.ga K "House") dx ((["blocks"] : List Str).zip [.ref ba]))
    refine ⟨_, rfl, _, rfl, _, _, _, _, rfl, h1.rd a, T.c_House, T.n_House_guard, lnz (by decide) _, ?_⟩
    have h2 := h1.upA a nz_House_guard (.int guard)
    refine ⟨_, rfl, _, rfl, _, _, _, _, rfl, h2.rd a, T.c_House, T.n_House_most_held, lnz (by decide) _, ?_⟩
    have h3 := h2.upA a nz_House_most_held (.int hold)
    intro pd hpd
    have h4 := h3.new hpd (o := .dK [])
    refine ⟨_, rfl, _, _, _, _, rfl, h4.rd a, T.c_House, T.n_House_pieces, lnz (by decide) _, ?_⟩
    have h5 := h4.upA a nz_House_pieces (.ref pd)
    refine ⟨Nat.zero_le _, fun wt hwt => ?_⟩
    have h6 := h5.new hwt (o := .lst [])
    refine ⟨_, rfl, _, _, _, _, rfl, h6.rd a, T.c_House, T.n_House_waiting, lnz (by decide) _, ?_⟩
    have h7 := h6.upA a nz_House_waiting (.ref wt)
    refine ⟨_, rfl, _, _, _, _, rfl, h7.rd a, T.c_House, T.n_House_next_number, lnz (by decide) _, ?_⟩
    have h8 := h7.upA a nz_House_next_number (.int 0)
    refine ⟨_, rfl, by decide, by decide, fun kd hkd => lcA (List.range 8) (fun i => .int (0 + (i : Int))) walk_range (List.length_range) (fun i H x H' hi y => ⟨y.1, i, List.getElem?_range hi, y.2⟩) h8 (fun _ _ => trivial) (fun _ => true) (fun _ => V.int 0) hkd (by decide) (fun _ => rfl) (fun _ _ _ _ Q q => q) (fun _ _ _ _ _ Q q => q) (fun H h9 => ?_)⟩
    refine ⟨_, rfl, _, _, _, _, rfl, h9.rd a, T.c_House, T.n_House_told_kinds, lnz (by decide) _, ?_⟩
    have h10 := h9.upA a nz_House_told_kinds (.ref kd)
    let L : HLay := ⟨dx, ba, pd, wt, kd, fun _ => ⟨0, 0, 0⟩⟩
    refine k _ L _ ⟨⟨List.nodup_nil, Nat.zero_le _, Nat.zero_le _, fun x hx => by cases hx⟩, BL, cb, hB, rfl⟩ (h10.to ?_)
    show cel a (oHouse K L (MHouse.new size chunk spare guard hold)) + (cel kd (.lst ((List.replicate 8 (0 : Int)).map V.int)) + _) = cel a (oHouse K L (MHouse.new size chunk spare guard hold)) + (cel pd (.dK []) + (cel wt (.lst []) + (cel kd (.lst ((List.replicate 8 (0 : Int)).map V.int)) + (nil + nil)))) + cb + F
    rw [add_nil, add_nil]
    ac_rfl
/-! what the dicts of the house give -/
theorem pread {L : HLay} {h : MHouse} {a : Addr} {H : Hp} {F : Cells} (ok : HOk h) {X : Cells} (hO : Owns H (X + (sumC (plC K L) h.pieces + F))) {n : Int} {p : MPiece} (hl : look h.pieces n = some p) : H (L.pl n).a = some (oPiece K (L.pl n) p) ∧ H (L.pl n).o = some (.dK (dk gI p.others)) := by
  rw [(sum_at (f := plC K L) ok.np hl).1] at hO
  unfold plC pieC at hO
  exact ⟨hO.rd (L.pl n).a, hO.rd (L.pl n).o⟩
/-- with the dict of pieces as it may stand -/
noncomputable def houseD (K : PySem.W.Frag) (a : Addr) (L : HLay) (h : MHouse) (ob : HO) : Cells := cel a (oHouse K L h) + (cel L.pd ob + (cel L.wt (.lst (h.waiting.map V.int)) + (cel L.kd (.lst (h.kinds.map V.int)) + (sumC (plC K L) h.pieces + sumC (plC K L) h.dead))))
theorem pread' {L : HLay} {h : MHouse} {a : Addr} {H : Hp} {F : Cells} {ob : HO} (ok : HOk h) (hO : Owns H (houseD K a L h ob + F)) {n : Int} {p : MPiece} (hl : look h.pieces n = some p) : H (L.pl n).a = some (oPiece K (L.pl n) p) ∧ H (L.pl n).o = some (.dK (dk gI p.others)) := by
  refine pread (a := a) (X := cel a (oHouse K L h) + (cel L.pd ob + (cel L.wt (.lst (h.waiting.map V.int)) + cel L.kd (.lst (h.kinds.map V.int))))) (F := sumC (plC K L) h.dead + F) ok (hO.to ?_) hl
  unfold houseD
  ac_rfl
theorem houseD_eq {a : Addr} {L : HLay} {h : MHouse} : houseC K a L h = houseD K a L h (.dK (dk (gP L) h.pieces)) := rfl
def refP (L : HLay) : Option (Int × MPiece) → V
  | none => .non
  | some p => .ref (L.pl p.1).a
def sp_House_tell (K : PySem.W.Frag) : Sp := fun vs H Q _ => ∃ (a b : Addr) (L : HLay) (h h' : MHouse) (A A' : MAsks) (kind place x y who : Int) (d F : Cells), vs = [.ref a, .ref b, .int kind, .int place, .int x, .int y, .int who] ∧ AsksAt K b A d ∧ Owns H (houseC K a L h + (d + F)) ∧ h.tell A kind place x y who = some (A', h') ∧
  ∀ H' d', AsksAt K b A' d' → Owns H' (houseC K a L h' + (d' + F)) → Q .non H'
theorem sc_House_tell : FnScope ["self", "asks", "kind", "place", "a", "b", "who"] ["self", "asks", "kind", "place", "a", "b", "who"] (defScope s_House_tell) := ⟨rfl, rfl, rfl, by decide +kernel, rfl, by decide +kernel, by decide +kernel⟩
theorem ok_House_tell (T : Env K mg) : DOk P w K mg base 3 ("House", some "tell") ["self", "asks", "kind", "place", "a", "b", "who"] (sp_House_tell K) := by
  obtain ⟨fd, F⟩ := T.d_House_tell
  refine ⟨fd, F.ok sc_House_tell (fun vs H Q E h => ?_) (fun cdv A outer s H vs Q E hr h => ?_), F.bindsN fun _ _ _ _ _ _ us hl => match us, hl with | [_, _, _, _, _, _, _], _ => rfl, F.kp⟩
  · obtain ⟨a, b, L, h, h', A0, A', kind, place, x, y, who, d, F, rfl, hA, hO, hm, k⟩ := h
    rfl
  · obtain ⟨a, b, L, h, h', A0, A', kind, place, x, y, who, d, F, rfl, hA, hO, hm, k⟩ := h
    refine ⟨_, PSs.nox (pss_cons (ps_augS (kfld (K := K) rfl (pv 0) rfl) (pv 2) get_list pe_int ip_add set_list)
      (pss_one (ps_expr (pmt (K := K) rfl (pv 1) T.c_Asks T.m_Asks_tell (ok_Asks_tell T) (hr.mono (by decide)) (pa_cons (pv 2) (pa_cons (pv 3) (pa_cons (pv 4) (pa_cons (pv 5) (pa_cons (pv 6) pa_nil))))))))), ?_⟩
    obtain ⟨n, hn, hm⟩ := Option.bind_eq_some_iff.mp hm
    split at hm
    case isFalse => cases hm
    rename_i hk0
    obtain ⟨A1, hA1, hm⟩ := Option.bind_eq_some_iff.mp hm
    cases hm
    have g := hO
    unfold houseC at g
    have hlt := (List.getElem?_eq_some_iff.mp hn).1
    -- self.told_kinds[kind] += 1
    refine ⟨_, rfl, _, _, _, _, _, rfl, g.rd a, T.c_House, T.n_House_told_kinds, lkz ix_House_told_kinds _, _, rfl, L.kd, _, _, .int n, rfl, rfl, SqL.of (g.rd L.kd), hk0, at_int (by omega) hn, _, _, rfl, rfl, L.kd, _, _, kind.toNat, rfl, rfl, g.rd L.kd, ixN_nat (by omega) (by rw [List.length_map]; exact hlt), ?_⟩
    have g2 := g.up L.kd (.lst ((h.kinds.map V.int).set kind.toNat (.int (n + 1))))
    have e : (h.kinds.map V.int).set kind.toNat (V.int (n + 1)) = (h.kinds.set kind.toNat (n + 1)).map V.int := by rw [List.map_set]
    rw [e] at g2 ⊢
    obtain ⟨dxa, al, ql, rs, hrs, rfl⟩ := id hA
    refine ⟨_, rfl, _, _, _, rfl, g2.rd b, lkn nx_Asks_tell _, _, rfl, _, rfl, _, rfl, _, rfl, _, rfl, b, A0, A', kind, place, x, y, who, _, _, rfl, hA, g2.to (by
      show _ = _ + (cel L.kd (.lst ((h.kinds.set kind.toNat (n + 1)).map V.int)) + (cel a (oHouse K L h) + (cel L.pd (.dK (dk (gP L) h.pieces)) + (cel L.wt (.lst (h.waiting.map V.int)) + (sumC (plC K L) h.pieces + sumC (plC K L) h.dead))) + F))
      ac_rfl), hA1, fun H2 d2 hA2 g3 => ?_⟩
    refine k _ _ hA2 (g3.to ?_)
    unfold houseC
    show _ = cel a (oHouse K L h) + (cel L.pd (.dK (dk (gP L) h.pieces)) + (cel L.wt (.lst (h.waiting.map V.int)) + (cel L.kd (.lst ((h.kinds.set kind.toNat (n + 1)).map V.int)) + (sumC (plC K L) h.pieces + sumC (plC K L) h.dead)))) + _
    ac_rfl
def sp_House_living_at (K : PySem.W.Frag) : Sp := fun vs H Q _ => ∃ (a : Addr) (L : HLay) (h : MHouse) (place : Int) (F : Cells), vs = [.ref a, .int place] ∧ HOk h ∧ Owns H (houseC K a L h + F) ∧ ∀ H', Owns H' (houseC K a L h + F) → Q (refP L (livingAt h.pieces place)) H'
theorem sc_House_living_at : FnScope ["self", "place", "number", "piece"] ["self", "place"] (defScope s_House_living_at) := ⟨rfl, rfl, rfl, by decide +kernel, rfl, by decide +kernel, by decide +kernel⟩
theorem ok_House_living_at (T : Env K mg) : DOk P w K mg base 1 ("House", some "living_at") ["self", "place"] (sp_House_living_at K) := by
  obtain ⟨fd, F⟩ := T.d_House_living_at
  refine ⟨fd, F.ok sc_House_living_at (fun vs H Q E h => ?_) (fun cdv A outer s H vs Q E hr h => ?_), F.bindsN fun _ _ _ _ _ _ us hl => match us, hl with | [_, _], _ => rfl, F.kp⟩
  · obtain ⟨a, L, h, place, F, rfl, ok, hO, k⟩ := h
    rfl
  · obtain ⟨a, L, h, place, F, rfl, ok, hO, k⟩ := h
    refine ⟨_, PSs.nox (pss_cons (ps_lock (ps_for PassesOwn.never rfl (pi_keys (kfld (K := K) rfl (pv 0) rfl)) (pg_name (i := 2) sc_House_living_at.nd rfl (Or.inl rfl))
        (pss_cons (ps_set (i := 3) sc_House_living_at.nd rfl (Or.inl rfl) (pe_dget (hu_of hr) (kfld (K := K) rfl (pv 0) rfl) (pv 2) (fun _ _ => rfl)))
      (pss_one (ps_if (PW.pt (pw_and (pt_cmpR op_eq (kfld (K := K) rfl (pv 3) rfl) (pv 1) (nomark _)) (pw_and1 (pt_not (pt_val (kfld (K := K) rfl (pv 3) rfl))))))
        (pss_one (ps_ret (pv 3)))
        pss_nil)))))
      (pss_one (ps_ret pe_non))), ?_⟩
    have g := hO
    unfold houseC at g
    refine ⟨L.pd, _, g.rd L.pd, trivial, fun od => ?_⟩
    have g1 : Owns _ (houseD K a L h (.frz od (.dK (dk (gP L) h.pieces))) + F) := (g.up L.pd (.frz od (.dK (dk (gP L) h.pieces)))).to (by unfold houseD; ac_rfl)
    have g1' := g1
    unfold houseD at g1'
    refine ⟨_, rfl, _, _, _, _, _, rfl, g1'.rd a, T.c_House, T.n_House_pieces, lkz ix_House_pieces _, L.pd, od, rfl, .inl ⟨_, g1'.rd L.pd, for_it walk_keys (fun i σ H' => ∃ v1 v2 : Option V, σ = [some (.ref a), some (.int place), v1, v2] ∧ Owns H' (houseD K a L h (.frz od (.dK (dk (gP L) h.pieces))) + F) ∧ (h.pieces.drop i).find? (fun p => decide (p.2.place = place) && !p.2.held) = livingAt h.pieces place)
      ⟨none, none, rfl, g1, rfl⟩ (fun i σ H' _ h => ?_) ?_ ?_⟩⟩
    · obtain ⟨_, _, _, h, _⟩ := h
      unfold houseD at h
      exact h.rd L.pd
    · rintro i y σ H' H'' hi ⟨v1, v2, rfl, g2, ht⟩ yy
      obtain ⟨rfl, p, hp, rfl⟩ := yKeys yy
      have hl : look h.pieces p.1 = some p.2 := look_of_mem ok.np (List.mem_of_getElem? hp)
      obtain ⟨q1, q2⟩ := List.getElem?_eq_some_iff.mp hp
      rw [List.drop_eq_getElem_cons q1, q2, List.find?_cons] at ht
      have g2' := g2
      unfold houseD at g2'
      have r := (pread' ok g2 hl).1
      refine ⟨_, rfl, _, _, _, _, _, rfl, g2'.rd a, T.c_House, T.n_House_pieces, lkz ix_House_pieces _, _, rfl, L.pd, _, rfl, dgetF (g := gP L) (g2'.rd L.pd) hl, ?_⟩
      refine ⟨_, rfl, _, _, _, _, _, rfl, r, T.c_Piece, T.n_Piece_place, lkz ix_Piece_place _, _, rfl, rfl, _, rfl, ?_⟩
      rw [dec_int]
      by_cases c1 : p.2.place = place
      · rw [decide_eq_true c1, Bool.true_and] at ht
        refine iteYd c1 ⟨_, rfl, _, _, _, _, _, rfl, r, T.c_Piece, T.n_Piece_is_held, lkz ix_Piece_is_held _, _, rfl, ?_⟩
        by_cases c2 : p.2.held = true
        · rw [c2] at ht ⊢
          exact iteN rfl ⟨_, _, rfl, g2, ht⟩
        · have c2 : p.2.held = false := by simpa using c2
          rw [c2] at ht ⊢
          refine iteY rfl ⟨_, rfl, g2'.rd L.pd, ?_⟩
          have z := k _ ((g2'.up L.pd (.dK (dk (gP L) h.pieces))).to (by unfold houseC; ac_rfl))
          rw [← ht] at z
          exact z
      · rw [decide_eq_false c1, Bool.false_and] at ht
        exact iteNd c1 (iteF ⟨_, _, rfl, g2, ht⟩)
    · rintro σ H' ⟨v1, v2, rfl, g2, ht⟩
      rw [dk_length, List.drop_length] at ht
      unfold houseD at g2
      refine ⟨g2.rd L.pd, ?_⟩
      have z := k _ ((g2.up L.pd (.dK (dk (gP L) h.pieces))).to (by unfold houseC; ac_rfl))
      rw [← ht] at z
      exact z
def sp_House_piece_at (K : PySem.W.Frag) : Sp := fun vs H Q _ => ∃ (a : Addr) (L : HLay) (h : MHouse) (place : Int) (F : Cells), vs = [.ref a, .int place] ∧ HOk h ∧ Owns H (houseC K a L h + F) ∧ ∀ H', Owns H' (houseC K a L h + F) → Q (refP L (pieceAt h.pieces place)) H'
theorem sc_House_piece_at : FnScope ["self", "place", "number"] ["self", "place"] (defScope s_House_piece_at) := ⟨rfl, rfl, rfl, by decide +kernel, rfl, by decide +kernel, by decide +kernel⟩
theorem ok_House_piece_at (T : Env K mg) : DOk P w K mg base 1 ("House", some "piece_at") ["self", "place"] (sp_House_piece_at K) := by
  obtain ⟨fd, F⟩ := T.d_House_piece_at
  refine ⟨fd, F.ok sc_House_piece_at (fun vs H Q E h => ?_) (fun cdv A outer s H vs Q E hr h => ?_), F.bindsN fun _ _ _ _ _ _ us hl => match us, hl with | [_, _], _ => rfl, F.kp⟩
  · obtain ⟨a, L, h, place, F, rfl, ok, hO, k⟩ := h
    rfl
  · obtain ⟨a, L, h, place, F, rfl, ok, hO, k⟩ := h
    refine ⟨_, PSs.nox (pss_cons (ps_lock (ps_for PassesOwn.never rfl (pi_keys (kfld (K := K) rfl (pv 0) rfl)) (pg_name (i := 2) sc_House_piece_at.nd rfl (Or.inl rfl))
        (pss_one (ps_if (pt_cmpR op_eq (kfld (K := K) rfl (pe_dget (hu_of hr) (kfld (K := K) rfl (pv 0) rfl) (pv 2) (fun _ _ => rfl)) rfl) (pv 1) (nomark _))
        (pss_one (ps_ret (pe_dget (hu_of hr) (kfld (K := K) rfl (pv 0) rfl) (pv 2) (fun _ _ => rfl))))
        pss_nil))))
      (pss_one (ps_ret pe_non))), ?_⟩
    have g := hO
    unfold houseC at g
    refine ⟨L.pd, _, g.rd L.pd, trivial, fun od => ?_⟩
    have g1 : Owns _ (houseD K a L h (.frz od (.dK (dk (gP L) h.pieces))) + F) := (g.up L.pd (.frz od (.dK (dk (gP L) h.pieces)))).to (by unfold houseD; ac_rfl)
    have g1' := g1
    unfold houseD at g1'
    refine ⟨_, rfl, _, _, _, _, _, rfl, g1'.rd a, T.c_House, T.n_House_pieces, lkz ix_House_pieces _, L.pd, od, rfl, .inl ⟨_, g1'.rd L.pd, for_it walk_keys (fun i σ H' => ∃ v1 : Option V, σ = [some (.ref a), some (.int place), v1] ∧ Owns H' (houseD K a L h (.frz od (.dK (dk (gP L) h.pieces))) + F) ∧ (h.pieces.drop i).find? (fun p => decide (p.2.place = place)) = pieceAt h.pieces place)
      ⟨none, rfl, g1, rfl⟩ (fun i σ H' _ h => ?_) ?_ ?_⟩⟩
    · obtain ⟨_, _, h, _⟩ := h
      unfold houseD at h
      exact h.rd L.pd
    · rintro i y σ H' H'' hi ⟨v1, rfl, g2, ht⟩ yy
      obtain ⟨rfl, p, hp, rfl⟩ := yKeys yy
      have hl : look h.pieces p.1 = some p.2 := look_of_mem ok.np (List.mem_of_getElem? hp)
      obtain ⟨q1, q2⟩ := List.getElem?_eq_some_iff.mp hp
      rw [List.drop_eq_getElem_cons q1, q2, List.find?_cons] at ht
      have g2' := g2
      unfold houseD at g2'
      have r := (pread' ok g2 hl).1
      refine ⟨_, rfl, _, _, _, _, _, rfl, g2'.rd a, T.c_House, T.n_House_pieces, lkz ix_House_pieces _, _, rfl, L.pd, _, rfl, dgetF (g := gP L) (g2'.rd L.pd) hl, _, _, _, _, _, rfl, r, T.c_Piece, T.n_Piece_place, lkz ix_Piece_place _, _, rfl, rfl, _, rfl, ?_⟩
      rw [dec_int]
      by_cases c1 : p.2.place = place
      · rw [decide_eq_true c1] at ht
        refine iteYd c1 ⟨_, rfl, _, _, _, _, _, rfl, g2'.rd a, T.c_House, T.n_House_pieces, lkz ix_House_pieces _, _, rfl, L.pd, _, rfl, dgetF (g := gP L) (g2'.rd L.pd) hl, g2'.rd L.pd, ?_⟩
        have z := k _ ((g2'.up L.pd (.dK (dk (gP L) h.pieces))).to (by unfold houseC; ac_rfl))
        rw [← ht] at z
        exact z
      · rw [decide_eq_false c1] at ht
        exact iteNd c1 ⟨_, rfl, g2, ht⟩
    · rintro σ H' ⟨v1, rfl, g2, ht⟩
      rw [dk_length, List.drop_length] at ht
      unfold houseD at g2
      refine ⟨g2.rd L.pd, ?_⟩
      have z := k _ ((g2.up L.pd (.dK (dk (gP L) h.pieces))).to (by unfold houseC; ac_rfl))
      rw [← ht] at z
      exact z
def sp_House_piece_with (K : PySem.W.Frag) : Sp := fun vs H Q _ => ∃ (a : Addr) (L : HLay) (h : MHouse) (x many : Int) (F : Cells), vs = [.ref a, .int x, .int many] ∧ HOk h ∧ Owns H (houseC K a L h + F) ∧ ∀ H', Owns H' (houseC K a L h + F) → Q (refP L (pieceWith h.pieces x many)) H'
theorem sc_House_piece_with : FnScope ["self", "at", "many", "number"] ["self", "at", "many"] (defScope s_House_piece_with) := ⟨rfl, rfl, rfl, by decide +kernel, rfl, by decide +kernel, by decide +kernel⟩
theorem ok_House_piece_with (T : Env K mg) : DOk P w K mg base 3 ("House", some "piece_with") ["self", "at", "many"] (sp_House_piece_with K) := by
  obtain ⟨fd, F⟩ := T.d_House_piece_with
  refine ⟨fd, F.ok sc_House_piece_with (fun vs H Q E h => ?_) (fun cdv A outer s H vs Q E hr h => ?_), F.bindsN fun _ _ _ _ _ _ us hl => match us, hl with | [_, _, _], _ => rfl, F.kp⟩
  · obtain ⟨a, L, h, x, many, F, rfl, ok, hO, k⟩ := h
    rfl
  · obtain ⟨a, L, h, x, many, F, rfl, ok, hO, k⟩ := h
    refine ⟨_, PSs.nox (pss_cons (ps_lock (ps_for PassesOwn.never rfl (pi_keys (kfld (K := K) rfl (pv 0) rfl)) (pg_name (i := 3) sc_House_piece_with.nd rfl (Or.inl rfl))
        (pss_one (ps_if (pt_val (pmt (K := K) rfl (pe_dget (hu_of hr) (kfld (K := K) rfl (pv 0) rfl) (pv 3) (fun _ _ => rfl)) T.c_Piece T.m_Piece_has (ok_Piece_has T) (hr.mono (by decide)) (pa_cons (pv 1) (pa_cons (pv 2) pa_nil))))
        (pss_one (ps_ret (pe_dget (hu_of hr) (kfld (K := K) rfl (pv 0) rfl) (pv 3) (fun _ _ => rfl))))
        pss_nil))))
      (pss_one (ps_ret pe_non))), ?_⟩
    have g := hO
    unfold houseC at g
    refine ⟨L.pd, _, g.rd L.pd, trivial, fun od => ?_⟩
    have g1 : Owns _ (houseD K a L h (.frz od (.dK (dk (gP L) h.pieces))) + F) := (g.up L.pd (.frz od (.dK (dk (gP L) h.pieces)))).to (by unfold houseD; ac_rfl)
    have g1' := g1
    unfold houseD at g1'
    refine ⟨_, rfl, _, _, _, _, _, rfl, g1'.rd a, T.c_House, T.n_House_pieces, lkz ix_House_pieces _, L.pd, od, rfl, .inl ⟨_, g1'.rd L.pd, for_it walk_keys (fun i σ H' => ∃ v1 : Option V, σ = [some (.ref a), some (.int x), some (.int many), v1] ∧ Owns H' (houseD K a L h (.frz od (.dK (dk (gP L) h.pieces))) + F) ∧ (h.pieces.drop i).find? (fun p => p.2.has x many) = pieceWith h.pieces x many)
      ⟨none, rfl, g1, rfl⟩ (fun i σ H' _ h => ?_) ?_ ?_⟩⟩
    · obtain ⟨_, _, h, _⟩ := h
      unfold houseD at h
      exact h.rd L.pd
    · rintro i y σ H' H'' hi ⟨v1, rfl, g2, ht⟩ yy
      obtain ⟨rfl, p, hp, rfl⟩ := yKeys yy
      have hl : look h.pieces p.1 = some p.2 := look_of_mem ok.np (List.mem_of_getElem? hp)
      obtain ⟨q1, q2⟩ := List.getElem?_eq_some_iff.mp hp
      rw [List.drop_eq_getElem_cons q1, q2, List.find?_cons] at ht
      have g2' := g2
      unfold houseD at g2'
      have r := (pread' ok g2 hl).1
      refine ⟨_, rfl, _, _, _, _, _, rfl, g2'.rd a, T.c_House, T.n_House_pieces, lkz ix_House_pieces _, _, rfl, L.pd, _, rfl, dgetF (g := gP L) (g2'.rd L.pd) hl, _, _, _, rfl, r, lkn nx_Piece_has _, _, rfl, _, rfl, L.pl p.1, p.2, x, many, rfl, r, _, rfl, ?_⟩
      by_cases c1 : p.2.has x many = true
      · rw [c1] at ht
        refine iteY c1 ⟨_, rfl, _, _, _, _, _, rfl, g2'.rd a, T.c_House, T.n_House_pieces, lkz ix_House_pieces _, _, rfl, L.pd, _, rfl, dgetF (g := gP L) (g2'.rd L.pd) hl, g2'.rd L.pd, ?_⟩
        have z := k _ ((g2'.up L.pd (.dK (dk (gP L) h.pieces))).to (by unfold houseC; ac_rfl))
        rw [← ht] at z
        exact z
      · have c1 : p.2.has x many = false := by simpa using c1
        rw [c1] at ht
        exact iteN c1 ⟨_, rfl, g2, ht⟩
    · rintro σ H' ⟨v1, rfl, g2, ht⟩
      rw [dk_length, List.drop_length] at ht
      unfold houseD at g2
      refine ⟨g2.rd L.pd, ?_⟩
      have z := k _ ((g2.up L.pd (.dK (dk (gP L) h.pieces))).to (by unfold houseC; ac_rfl))
      rw [← ht] at z
      exact z
end
end GK
end
section
set_option Elab.async false
set_option linter.all false
set_option maxRecDepth 100000
set_option maxHeartbeats 4000000
namespace GK
open PySem PySem.Spec PyProof.Rows L2
/-! ### one piece out of the house -/
noncomputable def houseX (K : PySem.W.Frag) (a : Addr) (L : HLay) (h : MHouse) (n : Int) : Cells := cel a (oHouse K L h) + (cel L.pd (.dK (dk (gP L) h.pieces)) + (cel L.wt (.lst (h.waiting.map V.int)) + (cel L.kd (.lst (h.kinds.map V.int)) + (sumC (plC K L) (del h.pieces n) + sumC (plC K L) h.dead))))
theorem house_split {K : PySem.W.Frag} {a : Addr} {L : HLay} {h : MHouse} {n : Int} {p : MPiece} (hn : (h.pieces.map (·.1)).Nodup) (hl : look h.pieces n = some p) : houseC K a L h = pieC K (L.pl n) p + houseX K a L h n := by
  unfold houseC houseX
  rw [(sum_at (f := plC K L) hn hl).1]
  show _ + (_ + (_ + (_ + (pieC K (L.pl n) p + _ + _)))) = _
  ac_rfl
theorem house_put {K : PySem.W.Frag} {a : Addr} {L : HLay} {h : MHouse} {n : Int} {p p1 : MPiece} (hn : (h.pieces.map (·.1)).Nodup) (hl : look h.pieces n = some p) : houseC K a L { h with pieces := put h.pieces n p1 } = pieC K (L.pl n) p1 + houseX K a L h n := by
  unfold houseC houseX
  show cel a (oHouse K L h) + (cel L.pd (.dK (dk (gP L) (put h.pieces n p1))) + (cel L.wt (.lst (h.waiting.map V.int)) + (cel L.kd (.lst (h.kinds.map V.int)) + (sumC (plC K L) (put h.pieces n p1) + sumC (plC K L) h.dead)))) = _
  rw [(sum_at (f := plC K L) hn hl).2 p1, dk_keys (g := fun k => V.ref (L.pl k).a) (put_keys (v' := p1) hl)]
  show _ + (_ + (_ + (_ + (pieC K (L.pl n) p1 + _ + _)))) = _
  ac_rfl
theorem HOk.put {h : MHouse} {n : Int} {p p1 : MPiece} (ok : HOk h) (hl : look h.pieces n = some p) (hp : POk p1) : HOk { h with pieces := put h.pieces n p1 } := by
  refine ⟨?_, ?_, ok.lw, fun x hx => ?_⟩
  · have e : ((GK.put h.pieces n p1 ++ h.dead).map (·.1)) = ((h.pieces ++ h.dead).map (·.1)) := by rw [List.map_append, List.map_append, put_keys hl]
    show ((GK.put h.pieces n p1 ++ h.dead).map (·.1)).Nodup
    rw [e]
    exact ok.nd
  · show (GK.put h.pieces n p1).length ≤ LIM
    rw [put_length hl]
    exact ok.lp
  · rcases put_mem hl hx with e | ⟨_, m⟩
    · rw [e]
      exact hp
    · exact ok.pok x m
theorem popAll_ok : ∀ {l : List Int} {o o' : List (Int × Int)}, popAll l o = some o' → o'.Sublist o
  | [], o, o', h => by
    cases h
    exact List.Sublist.refl _
  | a :: l, o, o', h => by
    unfold popAll at h
    split at h
    case isFalse => cases h
    exact (popAll_ok h).trans (del_sub o a)
theorem POk.right {p p1 : MPiece} (ok : POk p) (h : p.putRight = some p1) : POk p1 := by
  obtain ⟨o, ho, rfl⟩ := Option.map_eq_some_iff.mp h
  have s := popAll_ok ho
  exact ⟨(s.map _).nodup ok.nd, Nat.le_trans s.length_le ok.le⟩
theorem POk.hold {p : MPiece} (ok : POk p) (who : Int) : POk (p.hold who) :=
  ⟨((List.filter_sublist (l := p.others) (p := fun x => !p.isOwn x.1)).map (·.1)).nodup ok.nd, Nat.le_trans (List.length_filter_le _ _) ok.le⟩
/-- what telling changes -/
structure Told (h h1 : MHouse) : Prop where
  eq : h1 = { h with kinds := h1.kinds }
theorem told_tell {A A1 : MAsks} {h h1 : MHouse} {k p x y u : Int} (e : h.tell A k p x y u = some (A1, h1)) : Told h h1 := by
  obtain ⟨n, hn, e⟩ := Option.bind_eq_some_iff.mp e
  split at e
  case isFalse => cases e
  obtain ⟨A2, hA2, e⟩ := Option.bind_eq_some_iff.mp e
  cases e
  exact ⟨rfl⟩
theorem told_trans {h h1 h2 : MHouse} (a : Told h h1) (b : Told h1 h2) : Told h h2 := ⟨by rw [b.eq, a.eq]⟩
theorem told_L {place : Int} : ∀ {l : List Find4} {A A1 : MAsks} {h h1 : MHouse}, tellL place A h l = some (A1, h1) → Told h h1
  | [], A, A1, h, h1, e => by
    cases e
    exact ⟨rfl⟩
  | x :: l, A, A1, h, h1, e => by
    obtain ⟨⟨A2, h2⟩, e1, e2⟩ := Option.bind_eq_some_iff.mp e
    exact told_trans (told_tell e1) (told_L e2)
theorem Told.pieces {h h1 : MHouse} (t : Told h h1) : h1.pieces = h.pieces := by rw [t.eq]
theorem Told.dead {h h1 : MHouse} (t : Told h h1) : h1.dead = h.dead := by rw [t.eq]
theorem Told.waiting {h h1 : MHouse} (t : Told h h1) : h1.waiting = h.waiting := by rw [t.eq]
theorem Told.bl {h h1 : MHouse} (t : Told h h1) : h1.bl = h.bl := by rw [t.eq]
theorem Told.ok {h h1 : MHouse} (t : Told h h1) (ok : HOk h) : HOk h1 := ⟨by rw [t.pieces, t.dead]; exact ok.nd, by rw [t.pieces]; exact ok.lp, by rw [t.waiting]; exact ok.lw, by rw [t.pieces]; exact ok.pok⟩
section
variable {P : Program} {w : World} {K : PySem.W.Frag} {mg : Str → Option Value} {base : Heap}
def sp_House_look_at (K : PySem.W.Frag) : Sp := fun vs H Q _ => ∃ (a b : Addr) (L : HLay) (h h' : MHouse) (A A' : MAsks) (n z : Int) (d F : Cells), vs = [.ref a, .ref b, .ref (L.pl n).a] ∧ HOk h ∧ AsksAt K b A d ∧ Owns H (houseC K a L h + (d + F)) ∧ h.lookAt A n = some (A', h', z) ∧
  ∀ H' d', HOk h' → AsksAt K b A' d' → Owns H' (houseC K a L h' + (d' + F)) → Q (.int z) H'
theorem sc_House_look_at : FnScope ["self", "asks", "piece", "found", "kind", "far", "many", "who"] ["self", "asks", "piece"] (defScope s_House_look_at) := ⟨rfl, rfl, rfl, by decide +kernel, rfl, by decide +kernel, by decide +kernel⟩
theorem ok_House_look_at (T : Env K mg) : DOk P w K mg base 5 ("House", some "look_at") ["self", "asks", "piece"] (sp_House_look_at K) := by
  obtain ⟨fd, F⟩ := T.d_House_look_at
  refine ⟨fd, F.ok sc_House_look_at (fun vs H Q E h => ?_) (fun cdv A outer s H vs Q E hr h => ?_), F.bindsN fun _ _ _ _ _ _ us hl => match us, hl with | [_, _, _], _ => rfl, F.kp⟩
  · obtain ⟨a, b, L, h, h', A0, A', n, z, d, F, rfl, ok, hA, hO, hm, k⟩ := h
    rfl
  · obtain ⟨a, b, L, h, h', A0, A', n, z, d, F, rfl, ok, hA, hO, hm, k⟩ := h
    refine ⟨_, PSs.nox (pss_cons (ps_set (i := 3) sc_House_look_at.nd rfl (Or.inl rfl) (pmt0 (K := K) rfl (pv 2) T.c_Piece T.m_Piece_findings (ok_Piece_findings T) (hr.mono (by decide))))
      (pss_cons (ps_for PassesOwn.never rfl (kpi (K := K) rfl (pv 3)) (ktup (K := K) rfl rfl (pgs_cons (pg_name (i := 4) sc_House_look_at.nd rfl (Or.inl rfl)) (pgs_cons (pg_name (i := 5) sc_House_look_at.nd rfl (Or.inl rfl)) (pgs_cons (pg_name (i := 6) sc_House_look_at.nd rfl (Or.inl rfl)) (pgs_cons (pg_name (i := 7) sc_House_look_at.nd rfl (Or.inl rfl)) pgs_nil)))))
        (pss_one (ps_expr (pmt (K := K) rfl (pv 0) T.c_House T.m_House_tell (ok_House_tell T) (hr.mono (by decide)) (pa_cons (pv 1) (pa_cons (pv 4) (pa_cons (kfld (K := K) rfl (pv 2) rfl) (pa_cons (pv 5) (pa_cons (pv 6) (pa_cons (pv 7) pa_nil))))))))))
      (pss_cons (ps_expr (pmt0 (K := K) rfl (pv 2) T.c_Piece T.m_Piece_put_right (ok_Piece_put_right T) (hr.mono (by decide))))
      (pss_one (ps_ret (pe_callB call_len_seq (by rfl) T.f_len PySem.boot_len (pa_cons (pv 3) pa_nil))))))), ?_⟩
    obtain ⟨p, hp, hm⟩ := Option.bind_eq_some_iff.mp hm
    obtain ⟨⟨A1, h1⟩, ht, hm⟩ := Option.bind_eq_some_iff.mp hm
    obtain ⟨p1, hp1, hm⟩ := Option.bind_eq_some_iff.mp hm
    cases hm
    have pok : POk p := ok.pok (n, p) (look_mem' hp)
    have g := hO
    rw [house_split ok.np hp] at g
    have g' := g
    unfold pieC at g'
    -- found = piece.findings()
    refine ⟨_, rfl, _, _, _, rfl, g'.rd (L.pl n).a, lkn nx_Piece_findings _, L.pl n, p, _, rfl, pok, g.to (by
      show _ = pieC K (L.pl n) p + (houseX K a L h n + (d + F))
      ac_rfl), fun H1 fd ts hts g1 => ?_⟩
    have g2 : Owns H1 (houseC K a L h + (d + (foundC fd ts p.findings + F))) := g1.to (by rw [house_split ok.np hp]; ac_rfl)
    clear g1 g' g
    -- for kind, far, many, who in found
    refine ⟨_, rfl, fd, rfl, ⟨_, by unfold foundC at g2; exact SqL.of (g2.rd fd)⟩, for_list (K := K) (a := fd) (xs := ts.map V.ref) (fun i σ H' => ∃ (A2 : MAsks) (h2 : MHouse) (d2 : Cells) (v1 v2 v3 v4 : Option V), σ = [some (.ref a), some (.ref b), some (.ref (L.pl n).a), some (.ref fd), v1, v2, v3, v4] ∧
      Told h h2 ∧ AsksAt K b A2 d2 ∧ Owns H' (houseC K a L h2 + (d2 + (foundC fd ts p.findings + F))) ∧ tellL p.place A2 h2 (p.findings.drop i) = some (A1, h1))
      ⟨A0, h, d, none, none, none, none, rfl, ⟨rfl⟩, hA, g2, ht⟩ (fun i σ H' _ h => ?_) ?_ ?_⟩
    · obtain ⟨_, _, _, _, _, _, _, _, _, _, h, _⟩ := h
      unfold foundC at h
      exact SqL.of (h.rd fd)
    · rintro i y σ H' hi ⟨A2, h2, d2, v1, v2, v3, v4, rfl, td, hA2, g3, ht⟩
      obtain ⟨hir, rfl⟩ : ∃ h : i < ts.length, y = V.ref ts[i] := by
        rw [List.getElem?_map] at hi
        obtain ⟨r, h1, h2⟩ := Option.map_eq_some_iff.mp hi
        obtain ⟨h3, h4⟩ := List.getElem?_eq_some_iff.mp h1
        exact ⟨h3, by rw [h4]; exact h2.symm⟩
      obtain ⟨x, hx, e, he⟩ := quadC_mid ts p.findings i hts hir
      have g4 := g3
      unfold foundC at g4
      rw [he] at g4
      unfold houseC at g4
      obtain ⟨q1, q2⟩ := List.getElem?_eq_some_iff.mp hx
      rw [List.drop_eq_getElem_cons q1, q2] at ht
      obtain ⟨⟨A3, h3⟩, ht1, ht⟩ := Option.bind_eq_some_iff.mp ht
      refine ⟨ts[i], _, rfl, SqT.of (g4.rd ts[i]), rfl, _, _, rfl, _, _, rfl, _, _, rfl, _, _, rfl, rfl, ?_⟩
      have r : H' (L.pl n).a = some (oPiece K (L.pl n) p) := by
        have g5 := g3
        rw [houseD_eq] at g5
        exact (pread' (td.ok ok) g5 (by rw [td.pieces]; exact hp)).1
      refine ⟨_, rfl, _, _, _, rfl, g4.rd a, lkn nx_House_tell _, _, rfl, _, rfl, _, rfl, _, _, _, _, _, rfl, r, T.c_Piece, T.n_Piece_place, lkz ix_Piece_place _, _, rfl, _, rfl, _, rfl, a, b, L, h2, h3, A2, A3, x.1, p.place, x.2.1, x.2.2.1, x.2.2.2, d2, _, rfl, hA2, g3, ht1, fun H5 d5 hA5 g5 => ?_⟩
      exact ⟨A3, h3, d5, _, _, _, _, rfl, told_trans td (told_tell ht1), hA5, g5, ht⟩
    · rintro σ H' ⟨A2, h2, d2, v1, v2, v3, v4, rfl, td, hA2, g3, ht⟩
      rw [List.length_map, hts, List.drop_length] at ht
      have eht : A2 = A1 ∧ h2 = h1 := Prod.mk.inj (Option.some.inj ht)
      obtain ⟨rfl, rfl⟩ := eht
      have hp2 : look h2.pieces n = some p := by rw [td.pieces]; exact hp
      have np2 := (td.ok ok).np
      have g4 := g3
      rw [house_split np2 hp2] at g4
      have g4' := g4
      unfold pieC at g4'
      -- piece.put_right()
      refine ⟨_, rfl, _, _, _, rfl, g4'.rd (L.pl n).a, lkn nx_Piece_put_right _, L.pl n, p, p1, _, rfl, pok, g4.to (by
        show _ = pieC K (L.pl n) p + (houseX K a L h2 n + (d2 + (foundC fd ts p.findings + F)))
        ac_rfl), hp1, fun H5 g5 => ?_⟩
      have g6 : Owns H5 (foundC fd ts p.findings + (houseC K a L { h2 with pieces := put h2.pieces n p1 } + (d2 + F))) := g5.to (by rw [house_put np2 hp2]; ac_rfl)
      have g6' := g6
      unfold foundC at g6'
      refine ⟨_, rfl, _, _, rfl, .inl (SqL.of (g6'.rd fd)), ?_⟩
      rw [List.length_map, hts]
      exact k _ _ ((td.ok ok).put hp2 (pok.right hp1)) hA2 g6.r
theorem sizesOf_all {l : List (Int × MPiece)} : ∀ {ns : List Int} {xs : List Int}, sizesOf l ns = some xs → xs = ns.map (fun n => ((look l n).map MPiece.size).getD 0) ∧ ∀ n ∈ ns, ∃ p, look l n = some p
  | [], xs, h => by
    cases h
    exact ⟨rfl, fun b hb => by cases hb⟩
  | n :: ns, xs, h => by
    obtain ⟨p, hp, h⟩ := Option.bind_eq_some_iff.mp h
    obtain ⟨ys, hy, rfl⟩ := Option.map_eq_some_iff.mp h
    obtain ⟨e, a⟩ := sizesOf_all hy
    refine ⟨?_, fun c hc => ?_⟩
    · rw [List.map_cons, hp, ← e]
      rfl
    · rcases List.mem_cons.mp hc with rfl | hc
      · exact ⟨p, hp⟩
      · exact a c hc
def sp_House_held_sizes (K : PySem.W.Frag) : Sp := fun vs H Q _ => ∃ (a : Addr) (L : HLay) (h : MHouse) (z : Int) (F : Cells), vs = [.ref a] ∧ HOk h ∧ Owns H (houseC K a L h + F) ∧ h.heldSizes = some z ∧ ∀ H', Owns H' (houseC K a L h + F) → Q (.int z) H'
theorem sc_House_held_sizes : FnScope ["self", "number"] ["self"] (defScope s_House_held_sizes) := ⟨rfl, rfl, rfl, by decide +kernel, rfl, by decide +kernel, by decide +kernel⟩
theorem ok_House_held_sizes (T : Env K mg) : DOk P w K mg base 1 ("House", some "held_sizes") ["self"] (sp_House_held_sizes K) := by
  obtain ⟨fd, F⟩ := T.d_House_held_sizes
  refine ⟨fd, F.ok sc_House_held_sizes (fun vs H Q E h => ?_) (fun cdv A outer s H vs Q E hr h => ?_), F.bindsN fun _ _ _ _ _ _ us hl => match us, hl with | [_], _ => rfl, F.kp⟩
  · obtain ⟨a, L, h, z, F, rfl, ok, hO, hm, k⟩ := h
    rfl
  · obtain ⟨a, L, h, z, F, rfl, ok, hO, hm, k⟩ := h
    refine ⟨_, PSs.nox (pss_one (ps_ret (pe_callB (cr_sum rfl) (by rfl) T.f_sum (by decide +kernel) (pa_cons (pe_lc (own := [("number", 1)]) (g := gName 1) rfl sc_House_held_sizes.nd (kpi (K := K) rfl (kfld (K := K) rfl (pv 0) rfl)) (blkOk_by (own := [("number", 1)]) (N := ["self", "number"]) (sc := defScope s_House_held_sizes) (by decide +kernel)) (fun _ _ _ _ _ => pg_name (i := 1) sc_House_held_sizes.nd rfl (Or.inl rfl)) (fun _ _ _ _ _ => pts_nil) (fun _ _ _ _ _ => (kfld (K := K) rfl (pe_dget (hu_of hr) (kfld (K := K) rfl (pv 0) rfl) (pv 1) (fun _ _ => rfl)) rfl))) pa_nil)))), ?_⟩
    obtain ⟨xs, hxs, rfl⟩ := Option.map_eq_some_iff.mp hm
    obtain ⟨ex, ax⟩ := sizesOf_all hxs
    have g := hO
    unfold houseC at g
    refine ⟨_, rfl, _, _, _, _, _, rfl, g.rd a, T.c_House, T.n_House_waiting, lkz ix_House_waiting _, L.wt, rfl, ⟨_, SqL.of (g.rd L.wt)⟩, fun D hD => lcA h.waiting V.int walk_list (List.length_map _).symm yAt_ints hO (fun H g => by unfold houseC at g; exact SqL.of (g.rd L.wt)) (fun _ => true) (fun n => V.int (((look h.pieces n).map MPiece.size).getD 0)) hD (by rw [List.length_map]; exact ok.lw) (fun _ => rfl) (fun _ _ _ _ Q q => q) (fun n hn _ H g Q q => ?_) (fun H g => ?_)⟩
    · obtain ⟨p, hp⟩ := ax n hn
      have g' := g
      rw [houseD_eq] at g'
      have r := (pread' ok g' hp).1
      unfold houseD at g'
      rw [hp] at q
      exact ⟨_, rfl, _, _, _, _, _, rfl, g'.rd a, T.c_House, T.n_House_pieces, lkz ix_House_pieces _, _, rfl, L.pd, _, rfl, dget (g := gP L) (g'.rd L.pd) hp, _, _, _, _, _, rfl, r, T.c_Piece, T.n_Piece_size, lkz ix_Piece_size _, q⟩
    rw [List.filter_eq_self.mpr (fun _ _ => rfl)] at g
    have e : List.map (fun n => V.int (((look h.pieces n).map MPiece.size).getD 0)) h.waiting = xs.map V.int := by
      rw [ex, List.map_map]
      rfl
    rw [e] at g
    exact ⟨D, xs, rfl, SqL.of g.get, k _ g.r⟩
def sp_House_let_go (K : PySem.W.Frag) : Sp := fun vs H Q _ => ∃ (a b : Addr) (L : HLay) (h h' : MHouse) (A A' : MAsks) (c d F : Cells), vs = [.ref a, .ref b] ∧ HouseL K a L h c ∧ AsksAt K b A d ∧ Owns H (c + (d + F)) ∧ h.letGo A = some (A', h') ∧
  ∀ H' c' d', HouseL K a L h' c' → AsksAt K b A' d' → Owns H' (c' + (d' + F)) → Q .non H'
theorem sc_House_let_go : FnScope ["self", "asks", "piece"] ["self", "asks"] (defScope s_House_let_go) := ⟨rfl, rfl, rfl, by decide +kernel, rfl, by decide +kernel, by decide +kernel⟩
theorem ok_House_let_go (T : Env K mg) : DOk P w K mg base 6 ("House", some "let_go") ["self", "asks"] (sp_House_let_go K) := by
  obtain ⟨fd, F⟩ := T.d_House_let_go
  refine ⟨fd, F.ok sc_House_let_go (fun vs H Q E h => ?_) (fun cdv A outer s H vs Q E hr h => ?_), F.bindsN fun _ _ _ _ _ _ us hl => match us, hl with | [_, _], _ => rfl, F.kp⟩
  · obtain ⟨a, b, L, h, h', A0, A', c, d, F, rfl, ⟨ok, BL, cb, hB, rfl⟩, hA, hO, hm, k⟩ := h
    rfl
  · obtain ⟨a, b, L, h, h', A0, A', c, d, F, rfl, ⟨ok, BL, cb, hB, rfl⟩, hA, hO, hm, k⟩ := h
    refine ⟨_, PSs.nox (pss_cons (ps_set (i := 2) sc_House_let_go.nd rfl (Or.inl rfl) (pe_dget (hu_of hr) (kfld (K := K) rfl (pv 0) rfl) (pe_bm PySem.F.plainAttrs_list PySem.F.slot_list_pop PySem.F.type_list_pop mt_popAt (kfld (K := K) rfl (pv 0) rfl) (pa_cons pe_int pa_nil)) (fun _ _ => rfl)))
      (pss_cons (ps_expr (pmt (K := K) rfl (pv 0) T.c_House T.m_House_look_at (ok_House_look_at T) (hr.mono (by decide)) (pa_cons (pv 1) (pa_cons (pv 2) pa_nil))))
      (pss_cons (ps_expr (pe_dpop1 (kfld (K := K) rfl (pv 0) rfl) (kfld (K := K) rfl (pv 2) rfl) ⟨rfl, rfl, rfl, rfl⟩))
      (pss_one (ps_expr (pmt (K := K) rfl (kfld (K := K) rfl (pv 0) rfl) T.c_Blocks T.m_Blocks_give (ok_Blocks_give T) (hr.mono (by decide)) (pa_cons (pv 1) (pa_cons (kfld (K := K) rfl (pv 2) rfl) pa_nil)))))))), ?_⟩
    unfold MHouse.letGo at hm
    cases hw : h.waiting with
    | nil => rw [hw] at hm; cases hm
    | cons n ns =>
      rw [hw] at hm
      obtain ⟨⟨A1, h1, z⟩, hl, hm⟩ := Option.bind_eq_some_iff.mp hm
      obtain ⟨p, hp, hm⟩ := Option.bind_eq_some_iff.mp hm
      split at hm
      case isFalse => cases hm
      rename_i hb
      obtain ⟨hb1, hb2⟩ := hb
      obtain ⟨⟨A2, bl2⟩, hg, hm⟩ := Option.bind_eq_some_iff.mp hm
      cases hm
      have g := hO
      unfold houseC at g
      have gw : H L.wt = some (.lst (V.int n :: ns.map V.int)) := by
        have g0 := g.rd L.wt
        rw [hw] at g0
        exact g0
      -- piece = self.pieces[self.waiting.pop(0)]
      obtain ⟨p0, hp0, _⟩ := Option.bind_eq_some_iff.mp hl
      have hp0 : look h.pieces n = some p0 := hp0
      refine ⟨_, rfl, _, _, _, _, _, rfl, g.rd a, T.c_House, T.n_House_pieces, lkz ix_House_pieces _, _, rfl, _, _, _, _, _, rfl, g.rd a, T.c_House, T.n_House_waiting, lkz ix_House_waiting _, .inl ⟨rfl, _, SqL.of gw⟩, L.wt, _, 0, 0, V.int n, rfl, rfl, gw, by decide, by decide, seqIndex_of (by decide) (by show (0 : Int) < (((ns.map V.int).length + 1 : Nat) : Int); omega), rfl, ?_⟩
      have g1 := g.up L.wt (.lst (ns.map V.int))
      refine ⟨L.pd, _, rfl, dget (g := gP L) (g1.rd L.pd) hp0, ?_⟩
      have ok1 : HOk { h with waiting := ns } := ⟨ok.nd, ok.lp, by have := ok.lw; rw [hw] at this; exact Nat.le_of_succ_le this, ok.pok⟩
      have g2 : Owns (upd H L.wt (.lst (ns.map V.int))) (houseC K a L { h with waiting := ns } + (d + (cb + F))) := g1.to (by
        unfold houseC
        show _ = cel a (oHouse K L h) + (cel L.pd (.dK (dk (gP L) h.pieces)) + (cel L.wt (.lst (ns.map V.int)) + (cel L.kd (.lst (h.kinds.map V.int)) + (sumC (plC K L) h.pieces + sumC (plC K L) h.dead)))) + (d + (cb + F))
        ac_rfl)
      -- self.look_at(asks, piece)
      refine ⟨_, rfl, _, _, _, rfl, g1.rd a, lkn nx_House_look_at _, _, rfl, _, rfl, a, b, L, { h with waiting := ns }, h1, A0, A1, n, z, d, _, rfl, ok1, hA, g2, hl, fun H3 d3 ok3 hA3 g3 => ?_⟩
      have g3' := g3
      rw [houseD_eq] at g3'
      have r3 := (pread' ok3 g3' hp).1
      unfold houseD at g3'
      have hpn : p.number = n := hb1
      -- self.pieces.pop(piece.number)
      refine ⟨_, rfl, _, _, _, _, _, rfl, g3'.rd a, T.c_House, T.n_House_pieces, lkz ix_House_pieces _, L.pd, rfl, .inl ⟨_, .inl (g3'.rd L.pd)⟩, _, rfl, _, _, _, _, _, rfl, r3, T.c_Piece, T.n_Piece_number, lkz ix_Piece_number _, _, Sum.inl n, V.ref (L.pl n).a, g3'.rd L.pd, by rw [hpn] <;> rfl, by rw [valV_dk, hp] <;> rfl, ?_⟩
      rw [dropK_dk]
      have g4 := g3'.up L.pd (.dK (dk (gP L) (del h1.pieces n)))
      have okn : HOk { h1 with pieces := del h1.pieces n, dead := h1.dead ++ [(n, p)] } := by
        refine ⟨?_, Nat.le_trans (del_length _ _) ok3.lp, ok3.lw, fun x hx => ok3.pok x (del_mem.mp hx).2⟩
        have nd := ok3.nd
        show ((del h1.pieces n ++ (h1.dead ++ [(n, p)])).map (·.1)).Nodup
        rw [List.map_append, List.map_append, ← List.append_assoc]
        rw [List.map_append] at nd
        obtain ⟨n1, n2, n3⟩ := List.nodup_append.mp nd
        refine List.nodup_append.mpr ⟨List.nodup_append.mpr ⟨del_nodup n1 n, n2, fun x hx y hy => n3 x (((del_sub _ _).map _).mem hx) y hy⟩, by simp, fun x hx y hy e => ?_⟩
        have ey : y = n := by simpa using hy
        rw [ey] at e
        subst e
        rcases List.mem_append.mp hx with m | m
        · obtain ⟨q, hq, eq⟩ := List.mem_map.mp m
          exact (del_mem.mp hq).1 eq
        · exact look_none_key hb2 m
      have sp1 := (sum_at (f := plC K L) ok3.np hp).1
      have eh : houseC K a L { h1 with pieces := del h1.pieces n, dead := h1.dead ++ [(n, p)] } = cel a (oHouse K L h1) + (cel L.pd (.dK (dk (gP L) (del h1.pieces n))) + (cel L.wt (.lst (h1.waiting.map V.int)) + (cel L.kd (.lst (h1.kinds.map V.int)) + (sumC (plC K L) h1.pieces + sumC (plC K L) h1.dead)))) := by
        unfold houseC
        show cel a (oHouse K L h1) + (cel L.pd (.dK (dk (gP L) (del h1.pieces n))) + (cel L.wt (.lst (h1.waiting.map V.int)) + (cel L.kd (.lst (h1.kinds.map V.int)) + (sumC (plC K L) (del h1.pieces n) + sumC (plC K L) (h1.dead ++ [(n, p)]))))) = _
        rw [sum_ins, sp1]
        ac_rfl
      have r4 : (upd H3 L.pd (.dK (dk (gP L) (del h1.pieces n)))) (L.pl n).a = some (oPiece K (L.pl n) p) := by
        have g5 := g4
        rw [sp1] at g5
        unfold plC pieC at g5
        exact g5.rd (L.pl n).a
      -- self.blocks.give(asks, piece.block)
      obtain ⟨okB, cp, hP, ecb⟩ := id hB
      have ebl : h1.bl = h.bl := by
        obtain ⟨p2, hp2, hl⟩ := Option.bind_eq_some_iff.mp hl
        obtain ⟨⟨A9, h9⟩, ht, hl⟩ := Option.bind_eq_some_iff.mp hl
        obtain ⟨p3, hp3, hl⟩ := Option.bind_eq_some_iff.mp hl
        cases hl
        exact (told_L ht).bl
      have g4b := g4
      rw [ecb] at g4b
      unfold blocksC at g4b
      have hg : h.bl.give A1 p.block = some (A2, bl2) := by rw [← ebl]; exact hg
      refine ⟨_, rfl, _, _, _, _, _, rfl, g4.rd a, T.c_House, T.n_House_blocks, lkz ix_House_blocks _, _, _, _, rfl, g4b.rd L.bl, lkn nx_Blocks_give _, _, rfl, _, rfl, _, _, _, _, _, rfl, r4, T.c_Piece, T.n_Piece_block, lkz ix_Piece_block _, L.bl, b, BL, h.bl, bl2, A1, A2, p.block, cb, d3, houseC K a L { h1 with pieces := del h1.pieces n, dead := h1.dead ++ [(n, p)] } + F, rfl, hB, hA3, g4.to (by rw [eh]; ac_rfl), hg, fun H6 BL6 c6 d6 hB6 hA6 g6 => ?_⟩
      exact k _ _ _ ⟨⟨okn.nd, okn.lp, okn.lw, okn.pok⟩, BL6, c6, hB6, rfl⟩ hA6 (g6.to (by
        show _ = houseC K a L { h1 with pieces := del h1.pieces n, dead := h1.dead ++ [(n, p)] } + c6 + (d6 + F)
        ac_rfl))
end
end GK
end
section
set_option Elab.async false
set_option linter.all false
set_option maxRecDepth 100000
set_option maxHeartbeats 4000000
namespace GK
open PySem PySem.Spec PyProof.Rows L2
/-! ### a piece more -/
theorem plC_new {K : PySem.W.Frag} {L : HLay} {l : List (Int × MPiece)} {k : Int} {x : PL} (h : (look l k).isSome = false) : sumC (plC K (L.ins k x)) l = sumC (plC K L) l := sumC_congr fun q hq => by
  have : q.1 ≠ k := fun e => look_none_key h (List.mem_map.mpr ⟨q, hq, e⟩)
  unfold plC
  show pieC K (if q.1 = k then x else L.pl q.1) q.2 = _
  rw [if_neg this]
theorem gP_new {L : HLay} {l : List (Int × MPiece)} {k : Int} {x : PL} (h : (look l k).isSome = false) : ∀ p ∈ l, gP L p.1 p.2 = gP (L.ins k x) p.1 p.2 := fun q hq => by
  have : q.1 ≠ k := fun e => look_none_key h (List.mem_map.mpr ⟨q, hq, e⟩)
  show _ = V.ref (if q.1 = k then x else L.pl q.1).a
  rw [if_neg this]
theorem ins_self {L : HLay} {k : Int} {x : PL} : (L.ins k x).pl k = x := if_pos rfl
theorem HOk.ins {h : MHouse} (ok : HOk h) {bl : MBlocks} {p : MPiece} (h1 : h.pieces.length < LIM) (h2 : (look h.pieces h.next).isSome = false) (h3 : (look h.dead h.next).isSome = false) (hp : POk p) : HOk { h with bl := bl, pieces := h.pieces ++ [(h.next, p)], next := h.next + 1 } := by
  refine ⟨?_, ?_, ok.lw, fun x hx => ?_⟩
  · show ((h.pieces ++ [(h.next, p)] ++ h.dead).map (·.1)).Nodup
    have nd := ok.nd
    rw [List.map_append] at nd ⊢
    obtain ⟨n1, n2, n3⟩ := List.nodup_append.mp nd
    refine List.nodup_append.mpr ⟨ins_nodup n1 h2, n2, fun x hx y hy e => ?_⟩
    rw [List.map_append] at hx
    rcases List.mem_append.mp hx with m | m
    · exact n3 x m y hy e
    · have : x = h.next := by simpa using m
      exact look_none_key h3 (by rw [← this, e]; exact hy)
  · show (h.pieces ++ [(h.next, p)]).length ≤ LIM
    rw [List.length_append]
    exact h1
  · rcases List.mem_append.mp hx with m | m
    · exact ok.pok x m
    · have : x = (h.next, p) := by simpa using m
      rw [this]
      exact hp
section
variable {P : Program} {w : World} {K : PySem.W.Frag} {mg : Str → Option Value} {base : Heap}
def refN (L : HLay) : Option Int → V
  | none => .non
  | some n => .ref (L.pl n).a
def sp_House_new_piece (K : PySem.W.Frag) : Sp := fun vs H Q _ => ∃ (a b : Addr) (L : HLay) (h h' : MHouse) (A A' : MAsks) (size who : Int) (e : Nat) (r : Option Int) (c d F : Cells), vs = [.ref a, .ref b, .int size, .int (2 ^ e), .int who] ∧ e ≤ 12 ∧ HouseL K a L h c ∧ AsksAt K b A d ∧ Owns H (c + (d + F)) ∧ h.newPiece A size (2 ^ e) who = some (A', h', r) ∧
  ∀ H' L' c' d', (∀ n, (look h.pieces n).isSome = true → L'.pl n = L.pl n) → HouseL K a L' h' c' → AsksAt K b A' d' → Owns H' (c' + (d' + F)) → Q (refN L' r) H'
theorem two_le (e : Nat) (h : e ≤ 12) : (0 : Int) < 2 ^ e ∧ (2 : Int) ^ e ≤ 1000000 := by
  have h1 : (2 : Nat) ^ e ≤ 2 ^ 12 := Nat.pow_le_pow_right (by decide) h
  have h2 : 0 < (2 : Nat) ^ e := Nat.pow_pos (by decide)
  have h3 : ((2 ^ e : Nat) : Int) = (2 : Int) ^ e := by simp
  have h4 : (2 : Nat) ^ 12 = 4096 := by decide
  rw [← h3]
  omega
theorem sc_House_new_piece : FnScope ["self", "asks", "size", "multiple", "who", "front", "block", "piece"] ["self", "asks", "size", "multiple", "who"] (defScope s_House_new_piece) := ⟨rfl, rfl, rfl, by decide +kernel, rfl, by decide +kernel, by decide +kernel⟩
theorem ok_House_new_piece (T : Env K mg) : DOk P w K mg base 9 ("House", some "new_piece") ["self", "asks", "size", "multiple", "who"] (sp_House_new_piece K) := by
  obtain ⟨fd, F⟩ := T.d_House_new_piece
  refine ⟨fd, F.ok sc_House_new_piece (fun vs H Q E h => ?_) (fun cdv A outer s H vs Q E hr h => ?_), F.bindsN fun _ _ _ _ _ _ us hl => match us, hl with | [_, _, _, _, _], _ => rfl, F.kp⟩
  · obtain ⟨a, b, L, h, h', A0, A', size, who, e, r, c, d, F, rfl, he, ⟨ok, BL, cb, hB, rfl⟩, hA, hO, hm, k⟩ := h
    rfl
  · obtain ⟨a, b, L, h, h', A0, A', size, who, e, r, c, d, F, rfl, he, ⟨ok, BL, cb, hB, rfl⟩, hA, hO, hm, k⟩ := h
    refine ⟨_, PSs.nox (pss_cons (ps_set (i := 5) sc_House_new_piece.nd rfl (Or.inl rfl) (pcl (K := K) rfl T.g_front_of (ok_front_of T) (hr.mono (by decide)) (pa_cons (kfld (K := K) rfl (pv 0) rfl) (pa_cons (pv 3) pa_nil))))
      (pss_cons (ps_set (i := 6) sc_House_new_piece.nd rfl (Or.inl rfl) (pmt (K := K) rfl (kfld (K := K) rfl (pv 0) rfl) T.c_Blocks T.m_Blocks_take (ok_Blocks_take T) (hr.mono (by decide)) (pa_cons (pv 1) (pa_cons (pe_op op_add (pe_op op_add (pv 5) (pv 2)) (kfld (K := K) rfl (pv 0) rfl)) (pa_cons (pv 3) pa_nil)))))
      (pss_cons (ps_if (pt_cmpR op_isN (pv 6) pe_non (nomark _))
        (pss_one (ps_ret pe_non))
        pss_nil)
      (pss_cons (ps_set (i := 7) sc_House_new_piece.nd rfl (Or.inl rfl) (pmk (K := K) rfl T.k_Piece T.g_Piece (ok_Piece_init T) (hr.mono (by decide)) (pa_cons (kfld (K := K) rfl (pv 0) rfl) (pa_cons (pv 6) (pa_cons (pe_op op_add (pv 6) (pv 5)) (pa_cons (pv 2) (pa_cons (kfld (K := K) rfl (pv 0) rfl) (pa_cons (pv 4) pa_nil))))))))
      (pss_cons (ps_dput (hu_of hr) (kfld (K := K) rfl (pv 0) rfl) (kfld (K := K) rfl (pv 7) rfl) (pv 7) rfl)
      (pss_cons (ps_fldaug (pv 0) pe_int in_add)
      (pss_one (ps_ret (pv 7))))))))), ?_⟩
    obtain ⟨⟨A1, bl1, bo⟩, ht, hm⟩ := Option.bind_eq_some_iff.mp hm
    have g := hO
    unfold houseC at g
    -- front = front_of(self.guard, multiple)
    refine ⟨_, rfl, _, _, _, _, _, rfl, g.rd a, T.c_House, T.n_House_guard, lkz ix_House_guard _, _, rfl, h.guard, 2 ^ e, rfl, (two_le e he).1, (two_le e he).2, ?_⟩
    obtain ⟨okB, cp, hP, ecb⟩ := id hB
    have gb := g
    rw [ecb] at gb
    unfold blocksC at gb
    -- block = self.blocks.take(asks, front + size + self.guard, multiple)
    refine ⟨_, rfl, _, _, _, _, _, rfl, g.rd a, T.c_House, T.n_House_blocks, lkz ix_House_blocks _, _, _, _, rfl, gb.rd L.bl, lkn nx_Blocks_take _, _, rfl, _, rfl, _, rfl, _, _, rfl, rfl, _, rfl, _, _, _, _, _, rfl, g.rd a, T.c_House, T.n_House_guard, lkz ix_House_guard _, _, _, rfl, rfl, _, rfl, L.bl, b, BL, h.bl, bl1, A0, A1, _, e, bo, cb, d, houseC K a L h + F, rfl, hB, hA, hO.to (by ac_rfl), ht, fun H3 BL3 c3 d3 hB3 hA3 g3 => ?_⟩
    cases bo with
    | none =>
      cases hm
      exact ⟨_, rfl, rfl, _, rfl, iteY rfl (k _ L _ _ (fun _ _ => rfl) ⟨⟨ok.nd, ok.lp, ok.lw, ok.pok⟩, BL3, c3, hB3, rfl⟩ hA3 (g3.to (by
        show _ = houseC K a L h + c3 + _
        ac_rfl)))⟩
    | some bk =>
      have hm : (if h.pieces.length < LIM ∧ (look h.pieces h.next).isSome = false ∧ (look h.dead h.next).isSome = false then some (A1, ({ h with bl := bl1, pieces := h.pieces ++ [(h.next, ⟨h.next, bk, bk + frontOf h.guard (2 ^ e), size, h.guard, who, false, 0, []⟩)], next := h.next + 1 } : MHouse), some h.next) else none) = some (A', h', r) := hm
      split at hm
      case isFalse => cases hm
      rename_i hb
      obtain ⟨hb1, hb2, hb3⟩ := hb
      cases hm
      refine ⟨_, rfl, rfl, _, rfl, iteN rfl ?_⟩
      have g3' := g3
      unfold houseC at g3'
      -- piece = Piece(self.next_number, block, block + front, size, self.guard, who)
      refine ⟨_, rfl, _, _, _, _, _, rfl, g3'.rd a, T.c_House, T.n_House_next_number, lkz ix_House_next_number _, _, rfl, _, rfl, _, rfl, _, _, rfl, rfl, _, rfl, _, rfl, _, _, _, _, _, rfl, g3'.rd a, T.c_House, T.n_House_guard, lkz ix_House_guard _, _, rfl, fun x dx hx hdx ne => ?_⟩
      have g4 := g3.mk (u := .own x) (o := .ins (He.ga K "Piece") dx []) hx hdx ne
      refine ⟨x, dx, h.next, bk, bk + frontOf h.guard (2 ^ e), size, h.guard, who, _, rfl, g4, fun H5 o g5 => ⟨rfl, ?_⟩⟩
      have g5' := g5
      unfold houseC pieC at g5'
      -- self.pieces[piece.number] = piece
      let L1 := L.ins h.next ⟨x, dx, o⟩
      let p1 : MPiece := ⟨h.next, bk, bk + frontOf h.guard (2 ^ e), size, h.guard, who, false, 0, []⟩
      refine ⟨_, rfl, _, rfl, _, _, _, _, _, rfl, g5'.rd a, T.c_House, T.n_House_pieces, lkz ix_House_pieces _, _, rfl, _, _, _, _, _, rfl, g5'.rd x, T.c_Piece, T.n_Piece_number, lkz ix_Piece_number _, L.pd, _, rfl, dput_new (g := gP L) (g' := gP L1) (b := p1) (g5'.rd L.pd) hb2 hb1 (gP_new hb2) (by show _ = V.ref (L1.pl h.next).a; rw [ins_self]), ?_⟩
      have g6 := g5'.up L.pd (.dK (dk (gP L1) (h.pieces ++ [(h.next, p1)])))
      -- self.next_number += 1
      refine ⟨_, rfl, _, _, _, _, _, rfl, g6.rd a, T.c_House, T.n_House_next_number, lkz ix_House_next_number _, _, _, rfl, rfl, _, _, g6.rd a, lnz (by decide) _, ?_⟩
      have g7 : Owns _ (cel a (oHouse K L1 { h with next := h.next + 1 }) + _) := g6.upF a ix_House_next_number (.int (h.next + 1))
      have ev : refN L1 (some h.next) = .ref x := by
        show V.ref (L1.pl h.next).a = _
        rw [ins_self]
      refine ⟨_, rfl, ?_⟩
      have kk := k (upd (upd H5 L.pd (.dK (dk (gP L1) (h.pieces ++ [(h.next, p1)])))) a _) L1 _ _ (fun n hn => if_neg (fun e => by rw [e, hb2] at hn; cases hn)) ⟨ok.ins (bl := bl1) (p := p1) hb1 hb2 hb3 ⟨List.nodup_nil, Nat.zero_le _⟩, BL3, c3, hB3, rfl⟩ hA3 (g7.to (by
        unfold houseC
        rw [sum_ins]
        show _ = cel a (oHouse K L1 { h with next := h.next + 1 }) + (cel L.pd (.dK (dk (gP L1) (h.pieces ++ [(h.next, p1)]))) + (cel L.wt (.lst (h.waiting.map V.int)) + (cel L.kd (.lst (h.kinds.map V.int)) + (sumC (plC K L1) h.pieces + plC K L1 (h.next, p1) + sumC (plC K L1) h.dead)))) + c3 + (d3 + F)
        rw [plC_new hb2, plC_new hb3]
        have e1 : plC K L1 (h.next, p1) = pieC K ⟨x, dx, o⟩ p1 := by
          unfold plC
          rw [ins_self]
        rw [e1]
        unfold pieC
        ac_rfl))
      rw [ev] at kk
      exact kk
end
end GK
end
section
set_option Elab.async false
set_option linter.all false
set_option maxRecDepth 100000
set_option maxHeartbeats 4000000
namespace GK
open PySem PySem.Spec PyProof.Rows L2
theorem houseC_hold {K : PySem.W.Frag} {a : Addr} {L : HLay} {h1 : MHouse} {pp : List (Int × MPiece)} {ww : List Int} : houseC K a L { h1 with pieces := pp, waiting := ww } = cel a (oHouse K L h1) + (cel L.pd (.dK (dk (gP L) pp)) + (cel L.wt (.lst (ww.map V.int)) + (cel L.kd (.lst (h1.kinds.map V.int)) + (sumC (plC K L) pp + sumC (plC K L) h1.dead)))) := rfl
section
variable {P : Program} {w : World} {K : PySem.W.Frag} {mg : Str → Option Value} {base : Heap}
def sp_House_take (K : PySem.W.Frag) : Sp := fun vs H Q _ => ∃ (a b : Addr) (L : HLay) (h h' : MHouse) (A A' : MAsks) (size e who : Int) (xs : List Int) (c d F : Cells), vs = [.ref a, .ref b, .int size, .int e, .int who] ∧ HouseL K a L h c ∧ AsksAt K b A d ∧ Owns H (c + (d + F)) ∧ h.take A size e who = some (A', h', xs) ∧
  ∀ H' L' c' d' q, HouseL K a L' h' c' → AsksAt K b A' d' → Owns H' (cel q (.lst (xs.map V.int)) + (c' + (d' + F))) → Q (.ref q) H'
theorem sc_House_take : FnScope ["self", "asks", "size", "e", "who", "piece"] ["self", "asks", "size", "e", "who"] (defScope s_House_take) := ⟨rfl, rfl, rfl, by decide +kernel, rfl, by decide +kernel, by decide +kernel⟩
theorem ok_House_take (T : Env K mg) : DOk P w K mg base 10 ("House", some "take") ["self", "asks", "size", "e", "who"] (sp_House_take K) := by
  obtain ⟨fd, F⟩ := T.d_House_take
  refine ⟨fd, F.ok sc_House_take (fun vs H Q E h => ?_) (fun cdv A outer s H vs Q E hr h => ?_), F.bindsN fun _ _ _ _ _ _ us hl => match us, hl with | [_, _, _, _, _], _ => rfl, F.kp⟩
  · obtain ⟨a, b, L, h, h', A0, A', size, e, who, xs, c, d, F, rfl, hH, hA, hO, hm, k⟩ := h
    rfl
  · obtain ⟨a, b, L, h, h', A0, A', size, e, who, xs, c, d, F, rfl, hH, hA, hO, hm, k⟩ := h
    refine ⟨_, PSs.nox (pss_cons (ps_if (PW.pt (pw_or (pt_not (pt_val (pcl (K := K) rfl T.g_is_size (ok_is_size T) (hr.mono (by decide)) (pa_cons (pv 2) pa_nil)))) (pw_or (pt_not (pt_val (pcl (K := K) rfl T.g_is_from (ok_is_from T) (hr.mono (by decide)) (pa_cons (pv 3) (pa_cons pe_int (pa_cons pe_int pa_nil)))))) (pw_or1 (pt_not (pt_val (pcl (K := K) rfl T.g_is_who (ok_is_who T) (hr.mono (by decide)) (pa_cons (pv 4) pa_nil))))))))
        (pss_one (ps_ret (pe_lst (pa_cons (pe_gi T.i_ODD) pa_nil))))
        pss_nil)
      (pss_cons (ps_if (pt_cmpR op_eq (pe_callB call_lenD (by rfl) T.f_len PySem.boot_len (pa_cons (kfld (K := K) rfl (pv 0) rfl) pa_nil)) (pe_gi T.i_MOST_PIECES) (nomark _))
        (pss_one (ps_ret (pe_lst (pa_cons (pe_gi T.i_TOO_MANY) pa_nil))))
        pss_nil)
      (pss_cons (ps_set (i := 5) sc_House_take.nd rfl (Or.inl rfl) (pmt (K := K) rfl (pv 0) T.c_House T.m_House_new_piece (ok_House_new_piece T) (hr.mono (by decide)) (pa_cons (pv 1) (pa_cons (pv 2) (pa_cons (pe_op op_oneShl pe_int (pv 3)) (pa_cons (pv 4) pa_nil))))))
      (pss_cons (ps_if (pt_cmpR op_isN (pv 5) pe_non (nomark _))
        (pss_one (ps_ret (pe_lst (pa_cons (pe_gi T.i_FULL) pa_nil))))
        pss_nil)
      (pss_one (ps_ret (pe_lst (pa_cons (kfld (K := K) rfl (pv 5) rfl) pa_nil)))))))), ?_⟩
    unfold MHouse.take at hm
    refine ⟨_, rfl, size, rfl, _, rfl, ?_⟩
    by_cases q1 : isSize size = true
    case neg =>
      have q1 : isSize size = false := by simpa using q1
      rw [q1] at hm ⊢
      cases hm
      refine iteY rfl (iteY rfl ?_)
      exact ⟨(by show 1 ≤ sizeLine; decide), fun q hq => k _ L _ _ q hH hA (hO.new hq)⟩
    rw [q1] at hm ⊢
    refine iteN rfl ⟨_, rfl, e, 4, 12, rfl, _, rfl, ?_⟩
    by_cases q2 : isFrom e 4 12 = true
    case neg =>
      have q2 : isFrom e 4 12 = false := by simpa using q2
      rw [q2] at hm ⊢
      cases hm
      refine iteY rfl (iteY rfl ?_)
      exact ⟨(by show 1 ≤ sizeLine; decide), fun q hq => k _ L _ _ q hH hA (hO.new hq)⟩
    rw [q2] at hm ⊢
    refine iteN rfl ⟨_, rfl, who, rfl, _, rfl, ?_⟩
    by_cases q3 : isWho who = true
    case neg =>
      have q3 : isWho who = false := by simpa using q3
      rw [q3] at hm ⊢
      cases hm
      refine iteY rfl ?_
      exact ⟨(by show 1 ≤ sizeLine; decide), fun q hq => k _ L _ _ q hH hA (hO.new hq)⟩
    rw [q3] at hm ⊢
    refine iteN rfl ?_
    have hm : (if (h.pieces.length : Int) = 65536 then some (A0, h, [-6]) else (h.newPiece A0 size (2 ^ e.toNat) who).bind fun x => match x.2.2 with
        | none => some (x.1, x.2.1, [-7])
        | some n => (look x.2.1.pieces n).map fun p => (x.1, x.2.1, [p.place])) = some (A', h', xs) := hm
    obtain ⟨ok, BL, cb, hB, rfl⟩ := id hH
    have g := hO
    unfold houseC at g
    refine ⟨_, rfl, _, _, _, _, _, rfl, g.rd a, T.c_House, T.n_House_pieces, lkz ix_House_pieces _, L.pd, _, rfl, g.rd L.pd, rfl, _, rfl, ?_⟩
    rw [dec_int, dk_length]
    by_cases q4 : (h.pieces.length : Int) = 65536
    · rw [if_pos q4] at hm
      cases hm
      exact iteYd q4 ⟨(by show 1 ≤ sizeLine; decide), fun q hq => k _ L _ _ q hH hA (hO.new hq)⟩
    rw [if_neg q4] at hm
    refine iteNd q4 ?_
    obtain ⟨⟨A1, h1, r⟩, ht, hm⟩ := Option.bind_eq_some_iff.mp hm
    obtain ⟨hq2, hq3⟩ : 4 ≤ e ∧ e ≤ 12 := by
      unfold isFrom at q2
      simpa using q2
    obtain ⟨en, rfl⟩ : ∃ n : Nat, e = (n : Int) := ⟨e.toNat, by omega⟩
    rw [Int.toNat_natCast] at ht
    -- piece = self.new_piece(asks, size, 1 << e, who)
    refine ⟨_, rfl, _, _, _, rfl, g.rd a, lkn nx_House_new_piece _, _, rfl, _, rfl, _, rfl, en, rfl, rfl, by omega, _, rfl, a, b, L, h, h1, A0, A1, size, who, en, r, _, d, F, rfl, by omega, hH, hA, hO, ht, fun H2 L2 c2 d2 _ hH2 hA2 g2 => ?_⟩
    cases r with
    | none =>
      cases hm
      exact ⟨_, rfl, rfl, _, rfl, iteY rfl ⟨(by show 1 ≤ sizeLine; decide), fun q hq => k _ L2 _ _ q hH2 hA2 (g2.new hq)⟩⟩
    | some n =>
      obtain ⟨p, hp, hm⟩ := Option.map_eq_some_iff.mp hm
      cases hm
      obtain ⟨ok2, BL2, cb2, hB2, rfl⟩ := id hH2
      refine ⟨_, rfl, rfl, _, rfl, iteN rfl ?_⟩
      have g3 := g2
      rw [houseD_eq] at g3
      have r3 := (pread' ok2 (g3.to (cells_assoc _ _ _)) hp).1
      exact ⟨_, rfl, _, _, _, _, _, rfl, r3, T.c_Piece, T.n_Piece_place, lkz ix_Piece_place _, (by show 1 ≤ sizeLine; decide), fun q hq => k _ L2 _ _ q hH2 hA2 (g2.new hq)⟩
def sp_House_give_up (K : PySem.W.Frag) : Sp := fun vs H Q _ => ∃ (a b : Addr) (L : HLay) (h h' : MHouse) (A A' : MAsks) (n who : Int) (c d F : Cells), vs = [.ref a, .ref b, .ref (L.pl n).a, .int who] ∧ HouseL K a L h c ∧ AsksAt K b A d ∧ Owns H (c + (d + F)) ∧ h.giveUp A n who = some (A', h') ∧
  ∀ H' c' d', HouseL K a L h' c' → AsksAt K b A' d' → Owns H' (c' + (d' + F)) → Q .non H'
theorem sc_House_give_up : FnScope ["self", "asks", "piece", "who"] ["self", "asks", "piece", "who"] (defScope s_House_give_up) := ⟨rfl, rfl, rfl, by decide +kernel, rfl, by decide +kernel, by decide +kernel⟩
theorem ok_House_give_up (T : Env K mg) : DOk P w K mg base 7 ("House", some "give_up") ["self", "asks", "piece", "who"] (sp_House_give_up K) := by
  obtain ⟨fd, F⟩ := T.d_House_give_up
  refine ⟨fd, F.ok sc_House_give_up (fun vs H Q E h => ?_) (fun cdv A outer s H vs Q E hr h => ?_), F.bindsN fun _ _ _ _ _ _ us hl => match us, hl with | [_, _, _, _], _ => rfl, F.kp⟩
  · obtain ⟨a, b, L, h, h', A0, A', n, who, c, d, F, rfl, ⟨ok, BL, cb, hB, rfl⟩, hA, hO, hm, k⟩ := h
    rfl
  · obtain ⟨a, b, L, h, h', A0, A', n, who, c, d, F, rfl, ⟨ok, BL, cb, hB, rfl⟩, hA, hO, hm, k⟩ := h
    refine ⟨_, PSs.nox (pss_cons (ps_expr (pmt (K := K) rfl (pv 0) T.c_House T.m_House_look_at (ok_House_look_at T) (hr.mono (by decide)) (pa_cons (pv 1) (pa_cons (pv 2) pa_nil))))
      (pss_cons (ps_expr (pmt (K := K) rfl (pv 2) T.c_Piece T.m_Piece_hold (ok_Piece_hold T) (hr.mono (by decide)) (pa_cons (pv 3) pa_nil)))
      (pss_cons (ps_expr (pe_bm PySem.F.plainAttrs_list PySem.F.slot_list_append PySem.F.type_list_append mt_append (kfld (K := K) rfl (pv 0) rfl) (pa_cons (kfld (K := K) rfl (pv 2) rfl) pa_nil)))
      (pss_one (ps_while PassesOwn.never (pt_cmpR op_gt (pmt0 (K := K) rfl (pv 0) T.c_House T.m_House_held_sizes (ok_House_held_sizes T) (hr.mono (by decide))) (kfld (K := K) rfl (pv 0) rfl) (nomark _))
        (pss_one (ps_expr (pmt (K := K) rfl (pv 0) T.c_House T.m_House_let_go (ok_House_let_go T) (hr.mono (by decide)) (pa_cons (pv 1) pa_nil))))))))), ?_⟩
    obtain ⟨⟨A1, h1, z⟩, hl, hm⟩ := Option.bind_eq_some_iff.mp hm
    obtain ⟨p, hp, hm⟩ := Option.bind_eq_some_iff.mp hm
    split at hm
    case isFalse => cases hm
    rename_i hb
    obtain ⟨hb1, hb2⟩ := hb
    have g := hO
    unfold houseC at g
    have ebl : h1.bl = h.bl := by
      obtain ⟨p2, hp2, hl⟩ := Option.bind_eq_some_iff.mp hl
      obtain ⟨⟨A9, h9⟩, ht, hl⟩ := Option.bind_eq_some_iff.mp hl
      obtain ⟨p3, hp3, hl⟩ := Option.bind_eq_some_iff.mp hl
      cases hl
      exact (told_L ht).bl
    -- self.look_at(asks, piece)
    refine ⟨_, rfl, _, _, _, rfl, g.rd a, lkn nx_House_look_at _, _, rfl, _, rfl, a, b, L, h, h1, A0, A1, n, z, d, cb + F, rfl, ok, hA, hO.to (by ac_rfl), hl, fun H1 d1 ok1 hA1 g1 => ?_⟩
    have g1s := g1
    rw [house_split ok1.np hp] at g1s
    have g1' := g1s
    unfold pieC at g1'
    have pok : POk p := ok1.pok (n, p) (look_mem' hp)
    -- piece.hold(who)
    refine ⟨_, rfl, _, _, _, rfl, g1'.rd (L.pl n).a, lkn nx_Piece_hold _, _, rfl, L.pl n, p, who, _, rfl, pok, g1s.to (by
      show _ = pieC K (L.pl n) p + (houseX K a L h1 n + (d1 + (cb + F)))
      ac_rfl), fun H2 g2 => ?_⟩
    have ok2 : HOk { h1 with pieces := put h1.pieces n (p.hold who) } := ok1.put hp (pok.hold who)
    have hp2 : look (put h1.pieces n (p.hold who)) n = some (p.hold who) := by rw [look_put hp, if_pos rfl]
    have g3 : Owns H2 (houseC K a L { h1 with pieces := put h1.pieces n (p.hold who) } + (d1 + (cb + F))) := g2.to (by rw [house_put ok1.np hp]; ac_rfl)
    have g3' := g3
    rw [houseD_eq] at g3'
    have r3 := (pread' ok2 g3' hp2).1
    unfold houseD at g3'
    -- self.waiting.append(piece.number)
    refine ⟨_, rfl, _, _, _, _, _, rfl, g3'.rd a, T.c_House, T.n_House_waiting, lkz ix_House_waiting _, .inl ⟨rfl, _, SqL.of (g3'.rd L.wt)⟩, _, rfl, _, _, _, _, _, rfl, r3, T.c_Piece, T.n_Piece_number, lkz ix_Piece_number _, L.wt, _, _, rfl, rfl, g3'.rd L.wt, by rw [List.length_map]; exact lt_lim hb2, ?_⟩
    have hpn : (p.hold who).number = n := hb1
    rw [hpn]
    have g4 := g3'.up L.wt (.lst (h1.waiting.map V.int ++ [.int n]))
    let h2 : MHouse := { h1 with pieces := put h1.pieces n (p.hold who), waiting := h1.waiting ++ [n] }
    have ok3 : HOk h2 := ⟨ok2.nd, ok2.lp, by show (h1.waiting ++ [n]).length ≤ LIM; rw [List.length_append]; exact hb2, ok2.pok⟩
    have g5 : Owns (upd H2 L.wt (.lst (h1.waiting.map V.int ++ [.int n]))) (houseC K a L h2 + cb + (d1 + F)) := g4.to (by
      rw [houseC_hold, List.map_append, List.map_cons, List.map_nil]
      dsimp only
      ac_rfl)
    have hB2 : BlocksL K L.bl BL h2.bl cb := by
      show BlocksL K L.bl BL h1.bl cb
      rw [ebl]
      exact hB
    clear g4 g3' g3 g2 g1' g1s g1 g
    refine ⟨fun f σ H' => ∃ (A2 : MAsks) (h2 : MHouse) (c2 d2 : Cells), σ = [some (.ref a), some (.ref b), some (.ref (L.pl n).a), some (.int who)] ∧ HouseL K a L h2 c2 ∧ AsksAt K b A2 d2 ∧ Owns H' (c2 + (d2 + F)) ∧ letL f A2 h2 = some (A', h'),
      ⟨h1.waiting.length + 1, A1, h2, _, d1, rfl, ⟨ok3, BL, cb, hB2, rfl⟩, hA1, g5, hm⟩, ?_⟩
    rintro f σ H' ⟨A2, h3, c2, d2, rfl, ⟨ok4, BL4, cb4, hB4, rfl⟩, hA2, g6, ht⟩
    have g6' := g6
    unfold houseC at g6'
    have htz : ∃ z, h3.heldSizes = some z := by
      cases f with
      | zero =>
        obtain ⟨z, hz, _⟩ := Option.bind_eq_some_iff.mp ht
        exact ⟨z, hz⟩
      | succ f =>
        obtain ⟨z, hz, _⟩ := Option.bind_eq_some_iff.mp ht
        exact ⟨z, hz⟩
    obtain ⟨z, hz⟩ := htz
    -- self.held_sizes() > self.most_held
    refine ⟨_, rfl, _, _, _, rfl, g6'.rd a, lkn nx_House_held_sizes _, a, L, h3, z, cb4 + (d2 + F), rfl, ok4, g6.to (by ac_rfl), hz, fun H7 g7 => ?_⟩
    have g7' := g7
    unfold houseC at g7'
    refine ⟨_, rfl, _, _, _, _, _, rfl, g7'.rd a, T.c_House, T.n_House_most_held, lkz ix_House_most_held _, _, _, rfl, rfl, _, rfl, ?_⟩
    refine ite2 (fun q => ?_) (fun q => ?_)
    · have q : h3.mostHeld < z := of_decide_eq_true q
      cases f with
      | zero =>
        unfold letL at ht
        rw [hz] at ht
        have ht : (if h3.mostHeld < z then none else some (A2, h3)) = some (A', h') := ht
        rw [if_pos q] at ht
        cases ht
      | succ f =>
        unfold letL at ht
        rw [hz] at ht
        have ht : (if h3.mostHeld < z then (h3.letGo A2).bind fun x => letL f x.1 x.2 else some (A2, h3)) = some (A', h') := ht
        rw [if_pos q] at ht
        obtain ⟨⟨A3, h4⟩, hg, ht⟩ := Option.bind_eq_some_iff.mp ht
        refine ⟨_, fun σ' H' z => ⟨f, Nat.lt_succ_self f, z⟩, ?_⟩
        exact ⟨_, rfl, _, _, _, rfl, g7'.rd a, lkn nx_House_let_go _, _, rfl, a, b, L, h3, h4, A2, A3, _, d2, F, rfl, ⟨ok4, BL4, cb4, hB4, rfl⟩, hA2, g7.to (by ac_rfl), hg, fun H8 c8 d8 hH8 hA8 g8 => ⟨A3, h4, c8, d8, rfl, hH8, hA8, g8, ht⟩⟩
    · have q : ¬ h3.mostHeld < z := fun w => q (decide_eq_true w)
      have e : some (A2, h3) = some (A', h') := by
        cases f with
        | zero =>
          unfold letL at ht
          rw [hz] at ht
          have ht : (if h3.mostHeld < z then none else some (A2, h3)) = some (A', h') := ht
          rw [if_neg q] at ht
          exact ht
        | succ f =>
          unfold letL at ht
          rw [hz] at ht
          have ht : (if h3.mostHeld < z then (h3.letGo A2).bind fun x => letL f x.1 x.2 else some (A2, h3)) = some (A', h') := ht
          rw [if_neg q] at ht
          exact ht
      obtain ⟨rfl, rfl⟩ := Prod.mk.inj (Option.some.inj e)
      exact k _ _ _ ⟨ok4, BL4, cb4, hB4, rfl⟩ hA2 (g7.to (by ac_rfl))
/-- a piece that is there, or has been -/
theorem find_read {L : HLay} {h : MHouse} {a : Addr} {H : Hp} {F : Cells} (ok : HOk h) (g : Owns H (houseC K a L h + F)) {n : Int} {p : MPiece} (hl : h.find n = some p) : H (L.pl n).a = some (oPiece K (L.pl n) p) := by
  unfold houseC at g
  rw [← sumC_append, (sum_at (f := plC K L) ok.nd hl).1] at g
  unfold plC pieC at g
  exact g.rd (L.pl n).a
theorem look_pair {l : List (Int × MPiece)} {f : Int × MPiece → Bool} (hn : (l.map (·.1)).Nodup) {p : Int × MPiece} (h : l.find? f = some p) : look l p.1 = some p.2 := look_of_mem hn (List.mem_of_find?_eq_some h)
def sp_House_no_piece (K : PySem.W.Frag) : Sp := fun vs H Q _ => ∃ (a b : Addr) (L : HLay) (h h' : MHouse) (A A' : MAsks) (place who : Int) (xs : List Int) (c d F : Cells), vs = [.ref a, .ref b, .int place, .int who] ∧ HouseL K a L h c ∧ AsksAt K b A d ∧ Owns H (c + (d + F)) ∧ h.noPiece A place who = some (A', h', xs) ∧
  ∀ H' L' c' d' q, HouseL K a L' h' c' → AsksAt K b A' d' → Owns H' (cel q (.lst (xs.map V.int)) + (c' + (d' + F))) → Q (.ref q) H'
theorem sc_House_no_piece : FnScope ["self", "asks", "place", "who", "piece"] ["self", "asks", "place", "who"] (defScope s_House_no_piece) := ⟨rfl, rfl, rfl, by decide +kernel, rfl, by decide +kernel, by decide +kernel⟩
theorem ok_House_no_piece (T : Env K mg) : DOk P w K mg base 4 ("House", some "no_piece") ["self", "asks", "place", "who"] (sp_House_no_piece K) := by
  obtain ⟨fd, F⟩ := T.d_House_no_piece
  refine ⟨fd, F.ok sc_House_no_piece (fun vs H Q E h => ?_) (fun cdv A outer s H vs Q E hr h => ?_), F.bindsN fun _ _ _ _ _ _ us hl => match us, hl with | [_, _, _, _], _ => rfl, F.kp⟩
  · obtain ⟨a, b, L, h, h', A0, A', place, who, xs, c, d, F, rfl, ⟨ok, BL, cb, hB, rfl⟩, hA, hO, hm, k⟩ := h
    rfl
  · obtain ⟨a, b, L, h, h', A0, A', place, who, xs, c, d, F, rfl, ⟨ok, BL, cb, hB, rfl⟩, hA, hO, hm, k⟩ := h
    refine ⟨_, PSs.nox (pss_cons (ps_set (i := 4) sc_House_no_piece.nd rfl (Or.inl rfl) (pmt (K := K) rfl (pv 0) T.c_House T.m_House_piece_at (ok_House_piece_at T) (hr.mono (by decide)) (pa_cons (pv 2) pa_nil)))
      (pss_cons (ps_if (pt_cmpR op_notN (pv 4) pe_non (nomark _))
        (pss_cons (ps_expr (pmt (K := K) rfl (pv 0) T.c_House T.m_House_tell (ok_House_tell T) (hr.mono (by decide)) (pa_cons (pv 1) (pa_cons (pe_gi T.i_TWICE) (pa_cons (pv 2) (pa_cons (kfld (K := K) rfl (pv 4) rfl) (pa_cons (kfld (K := K) rfl (pv 4) rfl) (pa_cons (pv 3) pa_nil))))))))
      (pss_one (ps_ret (pe_lst (pa_cons (pe_op op_sub pe_int (pe_gi T.i_TWICE)) pa_nil)))))
        pss_nil)
      (pss_cons (ps_set (i := 4) sc_House_no_piece.nd rfl (Or.inl rfl) (pmt (K := K) rfl (pv 0) T.c_House T.m_House_piece_with (ok_House_piece_with T) (hr.mono (by decide)) (pa_cons (pv 2) (pa_cons pe_int pa_nil))))
      (pss_cons (ps_if (pt_cmpR op_notN (pv 4) pe_non (nomark _))
        (pss_cons (ps_expr (pmt (K := K) rfl (pv 0) T.c_House T.m_House_tell (ok_House_tell T) (hr.mono (by decide)) (pa_cons (pv 1) (pa_cons (pe_gi T.i_INSIDE) (pa_cons (pv 2) (pa_cons (kfld (K := K) rfl (pv 4) rfl) (pa_cons (pe_op op_sub (pv 2) (kfld (K := K) rfl (pv 4) rfl)) (pa_cons (pv 3) pa_nil))))))))
      (pss_one (ps_ret (pe_lst (pa_cons (pe_op op_sub pe_int (pe_gi T.i_INSIDE)) pa_nil)))))
        pss_nil)
      (pss_cons (ps_expr (pmt (K := K) rfl (pv 0) T.c_House T.m_House_tell (ok_House_tell T) (hr.mono (by decide)) (pa_cons (pv 1) (pa_cons (pe_gi T.i_NOWHERE) (pa_cons (pv 2) (pa_cons pe_int (pa_cons pe_int (pa_cons (pv 3) pa_nil))))))))
      (pss_one (ps_ret (pe_lst (pa_cons (pe_op op_sub pe_int (pe_gi T.i_NOWHERE)) pa_nil))))))))), ?_⟩
    unfold MHouse.noPiece at hm
    have g := hO
    unfold houseC at g
    -- piece = self.piece_at(place)
    refine ⟨_, rfl, _, _, _, rfl, g.rd a, lkn nx_House_piece_at _, _, rfl, a, L, h, place, cb + (d + F), rfl, ok, hO.to (by ac_rfl), fun H1 g1 => ?_⟩
    have g1' := g1
    unfold houseC at g1'
    cases h1 : pieceAt h.pieces place with
    | some p =>
      rw [h1] at hm
      obtain ⟨⟨A1, h2⟩, ht, hm⟩ := Option.map_eq_some_iff.mp hm
      cases hm
      have hl := look_pair ok.np h1
      have g1d := g1
      rw [houseD_eq] at g1d
      have r := (pread' ok g1d hl).1
      refine ⟨_, rfl, rfl, _, rfl, iteY rfl ?_⟩
      refine ⟨_, rfl, _, _, _, rfl, g1'.rd a, lkn nx_House_tell _, _, rfl, _, rfl, _, rfl, _, _, _, _, _, rfl, r, T.c_Piece, T.n_Piece_number, lkz ix_Piece_number _, _, rfl, _, _, _, _, _, rfl, r, T.c_Piece, T.n_Piece_giver, lkz ix_Piece_giver _, _, rfl, a, b, L, h, h2, A0, A1, 1, place, p.2.number, p.2.giver, who, d, cb + F, rfl, hA, g1.to (by ac_rfl), ht, fun H2 d2 hA2 g2 => ?_⟩
      have tt := told_tell ht
      exact ⟨_, _, rfl, rfl, (by show 1 ≤ sizeLine; decide), fun q hq => k _ L _ _ q ⟨tt.ok ok, BL, cb, by rw [tt.bl]; exact hB, rfl⟩ hA2 ((g2.new hq).to (by ac_rfl))⟩
    | none =>
      rw [h1] at hm
      refine ⟨_, rfl, rfl, _, rfl, iteN rfl ?_⟩
      -- piece = self.piece_with(place, 1)
      refine ⟨_, rfl, _, _, _, rfl, g1'.rd a, lkn nx_House_piece_with _, _, rfl, a, L, h, place, 1, cb + (d + F), rfl, ok, g1, fun H2 g2 => ?_⟩
      have g2' := g2
      unfold houseC at g2'
      cases h2 : pieceWith h.pieces place 1 with
      | some p =>
        have hm : ((h.tell A0 2 place p.2.number (place - p.2.place) who).map fun x => (x.1, x.2, [(-2 : Int)])) = some (A', h', xs) := by
          have hm0 := hm
          simp only [h2] at hm0
          exact hm0
        obtain ⟨⟨A1, h3⟩, ht, hm⟩ := Option.map_eq_some_iff.mp hm
        cases hm
        have hl := look_pair ok.np h2
        have g2d := g2
        rw [houseD_eq] at g2d
        have r := (pread' ok g2d hl).1
        refine ⟨_, rfl, rfl, _, rfl, iteY rfl ?_⟩
        refine ⟨_, rfl, _, _, _, rfl, g2'.rd a, lkn nx_House_tell _, _, rfl, _, rfl, _, rfl, _, _, _, _, _, rfl, r, T.c_Piece, T.n_Piece_number, lkz ix_Piece_number _, _, rfl, _, rfl, _, _, _, _, _, rfl, r, T.c_Piece, T.n_Piece_place, lkz ix_Piece_place _, _, _, rfl, rfl, _, rfl, a, b, L, h, h3, A0, A1, 2, place, p.2.number, place - p.2.place, who, d, cb + F, rfl, hA, g2.to (by ac_rfl), ht, fun H3 d3 hA3 g3 => ?_⟩
        have tt := told_tell ht
        exact ⟨_, _, rfl, rfl, (by show 1 ≤ sizeLine; decide), fun q hq => k _ L _ _ q ⟨tt.ok ok, BL, cb, by rw [tt.bl]; exact hB, rfl⟩ hA3 ((g3.new hq).to (by ac_rfl))⟩
      | none =>
        have hm : ((h.tell A0 3 place 0 0 who).map fun x => (x.1, x.2, [(-3 : Int)])) = some (A', h', xs) := by
          have hm0 := hm
          simp only [h2] at hm0
          exact hm0
        obtain ⟨⟨A1, h3⟩, ht, hm⟩ := Option.map_eq_some_iff.mp hm
        cases hm
        refine ⟨_, rfl, rfl, _, rfl, iteN rfl ?_⟩
        refine ⟨_, rfl, _, _, _, rfl, g2'.rd a, lkn nx_House_tell _, _, rfl, _, rfl, _, rfl, a, b, L, h, h3, A0, A1, 3, place, 0, 0, who, d, cb + F, rfl, hA, g2.to (by ac_rfl), ht, fun H3 d3 hA3 g3 => ?_⟩
        have tt := told_tell ht
        exact ⟨_, _, rfl, rfl, (by show 1 ≤ sizeLine; decide), fun q hq => k _ L _ _ q ⟨tt.ok ok, BL, cb, by rw [tt.bl]; exact hB, rfl⟩ hA3 ((g3.new hq).to (by ac_rfl))⟩
end
end GK
end
section
set_option Elab.async false
set_option linter.all false
set_option maxRecDepth 100000
set_option maxHeartbeats 4000000
namespace GK
open PySem PySem.Spec PyProof.Rows L2
section
variable {P : Program} {w : World} {K : PySem.W.Frag} {mg : Str → Option Value} {base : Heap}
theorem put_nodup {β : Type} {l : List (Int × β)} (hn : (l.map (·.1)).Nodup) (k : Int) (v : β) : ((put l k v).map (·.1)).Nodup := by
  cases h : look l k with
  | some u =>
    rw [put_keys h]
    exact hn
  | none =>
    unfold put
    split
    · rename_i e
      obtain ⟨p, hp, e⟩ := List.any_eq_true.mp e
      have : k ∈ l.map (·.1) := List.mem_map.mpr ⟨p, hp, of_decide_eq_true e⟩
      obtain ⟨v2, e2⟩ := look_of_key this
      rw [e2] at h
      cases h
    · exact ins_nodup hn (by rw [h]; rfl)
theorem put_le {β : Type} (l : List (Int × β)) (k : Int) (v : β) : (put l k v).length ≤ l.length + 1 := by
  unfold put
  split
  · rw [List.length_map]
    omega
  · rw [List.length_append]
    exact Nat.le_refl _
theorem POk.puts {p p' : MPiece} {x b : Int} (ok : POk p) (h : p.put x b = some p') : POk p' := by
  unfold MPiece.put at h
  split at h
  · split at h
    case isFalse => cases h
    rename_i hl
    cases h
    exact ⟨put_nodup ok.nd _ _, Nat.le_trans (put_le _ _ _) hl⟩
  · split at h
    · cases h
      exact ⟨del_nodup ok.nd _, Nat.le_trans (del_length _ _) ok.le⟩
    · cases h
      exact ok
theorem POk.copies {o : MPiece} : ∀ {l : List (Int × Int)} {p p' : MPiece}, POk p → MPiece.copyL o p l = some p' → POk p'
  | [], p, p', ok, h => by
    cases h
    exact ok
  | x :: l, p, p', ok, h => by
    unfold MPiece.copyL at h
    split at h
    · obtain ⟨p1, h1, h2⟩ := Option.bind_eq_some_iff.mp h
      exact POk.copies (ok.puts h1) h2
    · exact POk.copies ok h
def sp_House_give (K : PySem.W.Frag) : Sp := fun vs H Q _ => ∃ (a b : Addr) (L : HLay) (h h' : MHouse) (A A' : MAsks) (place who : Int) (xs : List Int) (c d F : Cells), vs = [.ref a, .ref b, .int place, .int who] ∧ HouseL K a L h c ∧ AsksAt K b A d ∧ Owns H (c + (d + F)) ∧ h.give A place who = some (A', h', xs) ∧
  ∀ H' L' c' d' q, HouseL K a L' h' c' → AsksAt K b A' d' → Owns H' (cel q (.lst (xs.map V.int)) + (c' + (d' + F))) → Q (.ref q) H'
theorem sc_House_give : FnScope ["self", "asks", "place", "who", "piece"] ["self", "asks", "place", "who"] (defScope s_House_give) := ⟨rfl, rfl, rfl, by decide +kernel, rfl, by decide +kernel, by decide +kernel⟩
theorem ok_House_give (T : Env K mg) : DOk P w K mg base 8 ("House", some "give") ["self", "asks", "place", "who"] (sp_House_give K) := by
  obtain ⟨fd, F⟩ := T.d_House_give
  refine ⟨fd, F.ok sc_House_give (fun vs H Q E h => ?_) (fun cdv A outer s H vs Q E hr h => ?_), F.bindsN fun _ _ _ _ _ _ us hl => match us, hl with | [_, _, _, _], _ => rfl, F.kp⟩
  · obtain ⟨a, b, L, h, h', A0, A', place, who, xs, c, d, F, rfl, hH, hA, hO, hm, k⟩ := h
    rfl
  · obtain ⟨a, b, L, h, h', A0, A', place, who, xs, c, d, F, rfl, hH, hA, hO, hm, k⟩ := h
    refine ⟨_, PSs.nox (pss_cons (ps_if (PW.pt (pw_or (pt_not (pt_val (pcl (K := K) rfl T.g_is_place (ok_is_place T) (hr.mono (by decide)) (pa_cons (pv 2) pa_nil)))) (pw_or1 (pt_not (pt_val (pcl (K := K) rfl T.g_is_who (ok_is_who T) (hr.mono (by decide)) (pa_cons (pv 3) pa_nil)))))))
        (pss_one (ps_ret (pe_lst (pa_cons (pe_gi T.i_ODD) pa_nil))))
        pss_nil)
      (pss_cons (ps_set (i := 4) sc_House_give.nd rfl (Or.inl rfl) (pmt (K := K) rfl (pv 0) T.c_House T.m_House_living_at (ok_House_living_at T) (hr.mono (by decide)) (pa_cons (pv 2) pa_nil)))
      (pss_cons (ps_if (pt_cmpR op_isN (pv 4) pe_non (nomark _))
        (pss_one (ps_ret (pmt (K := K) rfl (pv 0) T.c_House T.m_House_no_piece (ok_House_no_piece T) (hr.mono (by decide)) (pa_cons (pv 1) (pa_cons (pv 2) (pa_cons (pv 3) pa_nil))))))
        pss_nil)
      (pss_cons (ps_expr (pmt (K := K) rfl (pv 0) T.c_House T.m_House_give_up (ok_House_give_up T) (hr.mono (by decide)) (pa_cons (pv 1) (pa_cons (pv 4) (pa_cons (pv 3) pa_nil)))))
      (pss_one (ps_ret (pe_lst (pa_cons (kfld (K := K) rfl (pv 4) rfl) pa_nil)))))))), ?_⟩
    unfold MHouse.give at hm
    refine ⟨_, rfl, place, rfl, _, rfl, ?_⟩
    by_cases q1 : isPlace place = true
    case neg =>
      have q1 : isPlace place = false := by simpa using q1
      rw [q1] at hm ⊢
      cases hm
      exact iteY rfl (iteY rfl ⟨(by show 1 ≤ sizeLine; decide), fun q hq => k _ L _ _ q hH hA (hO.new hq)⟩)
    rw [q1] at hm ⊢
    refine iteN rfl ⟨_, rfl, who, rfl, _, rfl, ?_⟩
    by_cases q2 : isWho who = true
    case neg =>
      have q2 : isWho who = false := by simpa using q2
      rw [q2] at hm ⊢
      cases hm
      exact iteY rfl ⟨(by show 1 ≤ sizeLine; decide), fun q hq => k _ L _ _ q hH hA (hO.new hq)⟩
    rw [q2] at hm ⊢
    refine iteN rfl ?_
    obtain ⟨ok, BL, cb, hB, rfl⟩ := id hH
    have g := hO
    unfold houseC at g
    -- piece = self.living_at(place)
    refine ⟨_, rfl, _, _, _, rfl, g.rd a, lkn nx_House_living_at _, _, rfl, a, L, h, place, cb + (d + F), rfl, ok, hO.to (by ac_rfl), fun H1 g1 => ?_⟩
    have g1' := g1
    unfold houseC at g1'
    have g1c : Owns H1 (houseC K a L h + cb + (d + F)) := g1.to (cells_assoc _ _ _).symm
    cases h1 : livingAt h.pieces place with
    | none =>
      have hm : h.noPiece A0 place who = some (A', h', xs) := by
        have hm0 := hm
        simp only [h1] at hm0
        exact hm0
      refine ⟨_, rfl, rfl, _, rfl, iteY rfl ?_⟩
      exact ⟨_, rfl, _, _, _, rfl, g1'.rd a, lkn nx_House_no_piece _, _, rfl, _, rfl, _, rfl, a, b, L, h, h', A0, A', place, who, xs, _, d, F, rfl, hH, hA, g1c, hm, k⟩
    | some p =>
      have hm : ((h.giveUp A0 p.1 who).bind fun x => (x.2.find p.1).map fun p1 => (x.1, x.2, [p1.size])) = some (A', h', xs) := by
        have hm0 := hm
        simp only [h1] at hm0
        exact hm0
      obtain ⟨⟨A1, h2⟩, ht, hm⟩ := Option.bind_eq_some_iff.mp hm
      obtain ⟨p1, hp1, hm⟩ := Option.map_eq_some_iff.mp hm
      cases hm
      refine ⟨_, rfl, rfl, _, rfl, iteN rfl ?_⟩
      -- self.give_up(asks, piece, who)
      refine ⟨_, rfl, _, _, _, rfl, g1'.rd a, lkn nx_House_give_up _, _, rfl, _, rfl, _, rfl, a, b, L, h, h2, A0, A1, p.1, who, _, d, F, rfl, hH, hA, g1c, ht, fun H2 c2 d2 hH2 hA2 g2 => ?_⟩
      obtain ⟨ok2, BL2, cb2, hB2, rfl⟩ := id hH2
      exact ⟨_, rfl, _, _, _, _, _, rfl, find_read ok2 (g2.to (cells_assoc _ _ _)) hp1, T.c_Piece, T.n_Piece_size, lkz ix_Piece_size _, (by show 1 ≤ sizeLine; decide), fun q hq => k _ L _ _ q hH2 hA2 (g2.new hq)⟩
def sp_House_resize (K : PySem.W.Frag) : Sp := fun vs H Q _ => ∃ (a b : Addr) (L : HLay) (h h' : MHouse) (A A' : MAsks) (place size who : Int) (xs : List Int) (c d F : Cells), vs = [.ref a, .ref b, .int place, .int size, .int who] ∧ HouseL K a L h c ∧ AsksAt K b A d ∧ Owns H (c + (d + F)) ∧ h.resize A place size who = some (A', h', xs) ∧
  ∀ H' L' c' d' q, HouseL K a L' h' c' → AsksAt K b A' d' → Owns H' (cel q (.lst (xs.map V.int)) + (c' + (d' + F))) → Q (.ref q) H'
theorem sc_House_resize : FnScope ["self", "asks", "place", "size", "who", "piece", "other"] ["self", "asks", "place", "size", "who"] (defScope s_House_resize) := ⟨rfl, rfl, rfl, by decide +kernel, rfl, by decide +kernel, by decide +kernel⟩
theorem ok_House_resize (T : Env K mg) : DOk P w K mg base 10 ("House", some "resize") ["self", "asks", "place", "size", "who"] (sp_House_resize K) := by
  obtain ⟨fd, F⟩ := T.d_House_resize
  refine ⟨fd, F.ok sc_House_resize (fun vs H Q E h => ?_) (fun cdv A outer s H vs Q E hr h => ?_), F.bindsN fun _ _ _ _ _ _ us hl => match us, hl with | [_, _, _, _, _], _ => rfl, F.kp⟩
  · obtain ⟨a, b, L, h, h', A0, A', place, size, who, xs, c, d, F, rfl, hH, hA, hO, hm, k⟩ := h
    rfl
  · obtain ⟨a, b, L, h, h', A0, A', place, size, who, xs, c, d, F, rfl, hH, hA, hO, hm, k⟩ := h
    refine ⟨_, PSs.nox (pss_cons (ps_if (PW.pt (pw_or (pt_not (pt_val (pcl (K := K) rfl T.g_is_place (ok_is_place T) (hr.mono (by decide)) (pa_cons (pv 2) pa_nil)))) (pw_or (pt_not (pt_val (pcl (K := K) rfl T.g_is_size (ok_is_size T) (hr.mono (by decide)) (pa_cons (pv 3) pa_nil)))) (pw_or1 (pt_not (pt_val (pcl (K := K) rfl T.g_is_who (ok_is_who T) (hr.mono (by decide)) (pa_cons (pv 4) pa_nil))))))))
        (pss_one (ps_ret (pe_lst (pa_cons (pe_gi T.i_ODD) pa_nil))))
        pss_nil)
      (pss_cons (ps_set (i := 5) sc_House_resize.nd rfl (Or.inl rfl) (pmt (K := K) rfl (pv 0) T.c_House T.m_House_living_at (ok_House_living_at T) (hr.mono (by decide)) (pa_cons (pv 2) pa_nil)))
      (pss_cons (ps_if (pt_cmpR op_isN (pv 5) pe_non (nomark _))
        (pss_one (ps_ret (pmt (K := K) rfl (pv 0) T.c_House T.m_House_no_piece (ok_House_no_piece T) (hr.mono (by decide)) (pa_cons (pv 1) (pa_cons (pv 2) (pa_cons (pv 4) pa_nil))))))
        pss_nil)
      (pss_cons (ps_if (pt_cmpR op_eq (pe_callB call_lenD (by rfl) T.f_len PySem.boot_len (pa_cons (kfld (K := K) rfl (pv 0) rfl) pa_nil)) (pe_gi T.i_MOST_PIECES) (nomark _))
        (pss_one (ps_ret (pe_lst (pa_cons (pe_gi T.i_TOO_MANY) pa_nil))))
        pss_nil)
      (pss_cons (ps_set (i := 6) sc_House_resize.nd rfl (Or.inl rfl) (pmt (K := K) rfl (pv 0) T.c_House T.m_House_new_piece (ok_House_new_piece T) (hr.mono (by decide)) (pa_cons (pv 1) (pa_cons (pv 3) (pa_cons pe_int (pa_cons (pv 4) pa_nil))))))
      (pss_cons (ps_if (pt_cmpR op_isN (pv 6) pe_non (nomark _))
        (pss_one (ps_ret (pe_lst (pa_cons (pe_gi T.i_FULL) pa_nil))))
        pss_nil)
      (pss_cons (ps_expr (pmt (K := K) rfl (pv 6) T.c_Piece T.m_Piece_copy_from (ok_Piece_copy_from T) (hr.mono (by decide)) (pa_cons (pv 5) pa_nil)))
      (pss_cons (ps_expr (pmt (K := K) rfl (pv 0) T.c_House T.m_House_give_up (ok_House_give_up T) (hr.mono (by decide)) (pa_cons (pv 1) (pa_cons (pv 5) (pa_cons (pv 4) pa_nil)))))
      (pss_one (ps_ret (pe_lst (pa_cons (kfld (K := K) rfl (pv 6) rfl) pa_nil)))))))))))), ?_⟩
    unfold MHouse.resize at hm
    refine ⟨_, rfl, place, rfl, _, rfl, ?_⟩
    by_cases q1 : isPlace place = true
    case neg =>
      have q1 : isPlace place = false := by simpa using q1
      rw [q1] at hm ⊢
      cases hm
      exact iteY rfl (iteY rfl ⟨(by show 1 ≤ sizeLine; decide), fun q hq => k _ L _ _ q hH hA (hO.new hq)⟩)
    rw [q1] at hm ⊢
    refine iteN rfl ⟨_, rfl, size, rfl, _, rfl, ?_⟩
    by_cases q2 : isSize size = true
    case neg =>
      have q2 : isSize size = false := by simpa using q2
      rw [q2] at hm ⊢
      cases hm
      exact iteY rfl (iteY rfl ⟨(by show 1 ≤ sizeLine; decide), fun q hq => k _ L _ _ q hH hA (hO.new hq)⟩)
    rw [q2] at hm ⊢
    refine iteN rfl ⟨_, rfl, who, rfl, _, rfl, ?_⟩
    by_cases q3 : isWho who = true
    case neg =>
      have q3 : isWho who = false := by simpa using q3
      rw [q3] at hm ⊢
      cases hm
      exact iteY rfl ⟨(by show 1 ≤ sizeLine; decide), fun q hq => k _ L _ _ q hH hA (hO.new hq)⟩
    rw [q3] at hm ⊢
    refine iteN rfl ?_
    obtain ⟨ok, BL, cb, hB, rfl⟩ := id hH
    have g := hO
    unfold houseC at g
    -- piece = self.living_at(place)
    refine ⟨_, rfl, _, _, _, rfl, g.rd a, lkn nx_House_living_at _, _, rfl, a, L, h, place, cb + (d + F), rfl, ok, hO.to (by ac_rfl), fun H1 g1 => ?_⟩
    have g1' := g1
    unfold houseC at g1'
    have g1c : Owns H1 (houseC K a L h + cb + (d + F)) := g1.to (cells_assoc _ _ _).symm
    cases h1 : livingAt h.pieces place with
    | none =>
      have hm : h.noPiece A0 place who = some (A', h', xs) := by
        have hm0 := hm
        simp only [h1] at hm0
        exact hm0
      refine ⟨_, rfl, rfl, _, rfl, iteY rfl ?_⟩
      exact ⟨_, rfl, _, _, _, rfl, g1'.rd a, lkn nx_House_no_piece _, _, rfl, _, rfl, _, rfl, a, b, L, h, h', A0, A', place, who, xs, _, d, F, rfl, hH, hA, g1c, hm, k⟩
    | some p =>
      have hm : (if (h.pieces.length : Int) = 65536 then some (A0, h, [-6]) else (h.newPiece A0 size 16 who).bind fun x => match x.2.2 with
        | none => some (x.1, x.2.1, [-7])
        | some n => (look x.2.1.pieces n).bind fun o => (look x.2.1.pieces p.1).bind fun p1 => if n = p.1 then none else (o.copyFrom p1).bind fun o1 => ({ x.2.1 with pieces := put x.2.1.pieces n o1 }.giveUp x.1 p.1 who).bind fun y => (y.2.find n).map fun (o2 : MPiece) => (y.1, y.2, [o2.place])) = some (A', h', xs) := by
        have hm0 := hm
        simp only [h1] at hm0
        exact hm0
      refine ⟨_, rfl, rfl, _, rfl, iteN rfl ?_⟩
      refine ⟨_, rfl, _, _, _, _, _, rfl, g1'.rd a, T.c_House, T.n_House_pieces, lkz ix_House_pieces _, L.pd, _, rfl, g1'.rd L.pd, rfl, _, rfl, ?_⟩
      rw [dec_int, dk_length]
      by_cases q4 : (h.pieces.length : Int) = 65536
      · rw [if_pos q4] at hm
        cases hm
        exact iteYd q4 ⟨(by show 1 ≤ sizeLine; decide), fun q hq => k _ L _ _ q hH hA (g1c.new hq)⟩
      rw [if_neg q4] at hm
      refine iteNd q4 ?_
      obtain ⟨⟨A1, h2, r⟩, ht, hm⟩ := Option.bind_eq_some_iff.mp hm
      have hpl := look_pair ok.np h1
      -- other = self.new_piece(asks, size, 16, who)
      refine ⟨_, rfl, _, _, _, rfl, g1'.rd a, lkn nx_House_new_piece _, _, rfl, _, rfl, _, rfl, a, b, L, h, h2, A0, A1, size, who, 4, r, _, d, F, rfl, by decide, hH, hA, g1c, ht, fun H2 L2 c2 d2 hex hH2 hA2 g2 => ?_⟩
      cases r with
      | none =>
        cases hm
        exact ⟨_, rfl, rfl, _, rfl, iteY rfl ⟨(by show 1 ≤ sizeLine; decide), fun q hq => k _ L2 _ _ q hH2 hA2 (g2.new hq)⟩⟩
      | some n =>
        obtain ⟨o, ho, hm⟩ := Option.bind_eq_some_iff.mp hm
        obtain ⟨p1, hp1, hm⟩ := Option.bind_eq_some_iff.mp hm
        split at hm
        case isTrue => cases hm
        rename_i hne
        obtain ⟨o1, ho1, hm⟩ := Option.bind_eq_some_iff.mp hm
        obtain ⟨⟨A3, h4⟩, hg, hm⟩ := Option.bind_eq_some_iff.mp hm
        obtain ⟨o2, ho2, hm⟩ := Option.map_eq_some_iff.mp hm
        cases hm
        obtain ⟨ok2, BL2, cb2, hB2, rfl⟩ := id hH2
        refine ⟨_, rfl, rfl, _, rfl, iteN rfl ?_⟩
        have ep : (refP L (some p) : V) = .ref (L2.pl p.1).a := by
          show V.ref (L.pl p.1).a = _
          rw [hex p.1 (by rw [hpl] <;> rfl)]
        rw [ep]
        have g3 := g2
        rw [house_split ok2.np ho] at g3
        have hp1' : look (del h2.pieces n) p.1 = some p1 := by rw [look_del, if_neg (fun e => hne e.symm)]; exact hp1
        have sp := (sum_at (f := plC K L2) (del_nodup ok2.np n) hp1').1
        have g3' := g3
        unfold pieC at g3'
        obtain ⟨x3, ex⟩ : ∃ x3, houseX K a L2 h2 n = pieC K (L2.pl p.1) p1 + x3 := by
          refine ⟨cel a (oHouse K L2 h2) + (cel L2.pd (.dK (dk (gP L2) h2.pieces)) + (cel L2.wt (.lst (h2.waiting.map V.int)) + (cel L2.kd (.lst (h2.kinds.map V.int)) + (sumC (plC K L2) (del (del h2.pieces n) p.1) + sumC (plC K L2) h2.dead)))), ?_⟩
          unfold houseX
          rw [sp]
          show _ + (_ + (_ + (_ + (pieC K (L2.pl p.1) p1 + _ + _)))) = _
          ac_rfl
        -- other.copy_from(piece)
        refine ⟨_, rfl, _, _, _, rfl, g3'.rd (L2.pl n).a, lkn nx_Piece_copy_from _, _, rfl, L2.pl n, L2.pl p.1, o, o1, p1, x3 + cb2 + (d2 + F), rfl, ok2.pok (p.1, p1) (look_mem' hp1), g3.to (by
          rw [ex]
          generalize pieC K (L2.pl p.1) p1 = x1
          generalize pieC K (L2.pl n) o = x2
          ac_rfl), ho1, fun H3 g4 => ?_⟩
        have ok3 : HOk { h2 with pieces := put h2.pieces n o1 } := ok2.put ho ((ok2.pok (n, o) (look_mem' ho)).copies ho1)
        have g5 : Owns H3 (houseC K a L2 { h2 with pieces := put h2.pieces n o1 } + cb2 + (d2 + F)) := g4.to (by
          rw [house_put ok2.np ho, ex]
          generalize pieC K (L2.pl p.1) p1 = x1
          generalize pieC K (L2.pl n) o1 = x2
          ac_rfl)
        have g5' := g5
        unfold houseC at g5'
        -- self.give_up(asks, piece, who)
        refine ⟨_, rfl, _, _, _, rfl, g5'.rd a, lkn nx_House_give_up _, _, rfl, _, rfl, _, rfl, a, b, L2, { h2 with pieces := put h2.pieces n o1 }, h4, A1, A3, p.1, who, _, d2, F, rfl, ⟨ok3, BL2, cb2, hB2, rfl⟩, hA2, g5, hg, fun H4 c4 d4 hH4 hA4 g6 => ?_⟩
        obtain ⟨ok4, BL4, cb4, hB4, rfl⟩ := id hH4
        exact ⟨_, rfl, _, _, _, _, _, rfl, find_read ok4 (g6.to (cells_assoc _ _ _)) ho2, T.c_Piece, T.n_Piece_place, lkz ix_Piece_place _, (by show 1 ≤ sizeLine; decide), fun q hq => k _ L2 _ _ q hH4 hA4 (g6.new hq)⟩
end
end GK
end
section
set_option Elab.async false
set_option linter.all false
set_option maxRecDepth 100000
set_option maxHeartbeats 4000000
namespace GK
open PySem PySem.Spec PyProof.Rows L2
section
variable {P : Program} {w : World} {K : PySem.W.Frag} {mg : Str → Option Value} {base : Heap}
theorem putAll_drop {at_ : Int} {p' : MPiece} {row : List Int} {i : Nat} {z : Int} {p : MPiece} (h : row[i]? = some z) (ht : p.putAll (at_ + (i : Int)) (row.drop i) = some p') : ∃ p1, p.put (at_ + (i : Int)) z = some p1 ∧ p1.putAll (at_ + ((i + 1 : Nat) : Int)) (row.drop (i + 1)) = some p' := by
  obtain ⟨q1, q2⟩ := List.getElem?_eq_some_iff.mp h
  rw [List.drop_eq_getElem_cons q1, q2] at ht
  obtain ⟨p1, h1, h2⟩ := Option.bind_eq_some_iff.mp ht
  refine ⟨p1, h1, ?_⟩
  have e : at_ + ((i + 1 : Nat) : Int) = at_ + (i : Int) + 1 := by omega
  rw [e]
  exact h2
def sp_House_write (K : PySem.W.Frag) : Sp := fun vs H Q _ => ∃ (a r : Addr) (L : HLay) (h h' : MHouse) (x : Int) (row xs : List Int) (c F : Cells), vs = [.ref a, .int x, .ref r] ∧ HouseL K a L h c ∧ Owns H (c + (cel r (.lst (row.map V.int)) + F)) ∧ h.write x row = some (h', xs) ∧
  ∀ H' L' c' q, HouseL K a L' h' c' → Owns H' (cel q (.lst (xs.map V.int)) + (c' + (cel r (.lst (row.map V.int)) + F))) → Q (.ref q) H'
theorem sc_House_write : FnScope ["self", "at", "row", "piece", "k", "byte"] ["self", "at", "row"] (defScope s_House_write) := ⟨rfl, rfl, rfl, by decide +kernel, rfl, by decide +kernel, by decide +kernel⟩
theorem ok_House_write (T : Env K mg) : DOk P w K mg base 5 ("House", some "write") ["self", "at", "row"] (sp_House_write K) := by
  obtain ⟨fd, F⟩ := T.d_House_write
  refine ⟨fd, F.ok sc_House_write (fun vs H Q E h => ?_) (fun cdv A outer s H vs Q E hr h => ?_), F.bindsN fun _ _ _ _ _ _ us hl => match us, hl with | [_, _, _], _ => rfl, F.kp⟩
  · obtain ⟨a, r, L, h, h', x, row, xs, c, F, rfl, hH, hO, hm, k⟩ := h
    rfl
  · obtain ⟨a, r, L, h, h', x, row, xs, c, F, rfl, hH, hO, hm, k⟩ := h
    refine ⟨_, PSs.nox (pss_cons (ps_if (pt_cmpR op_eq (pe_callB call_len_seq (by rfl) T.f_len PySem.boot_len (pa_cons (pv 2) pa_nil)) pe_int (nomark _))
        (pss_one (ps_ret (pe_lst (pa_cons pe_int pa_nil))))
        pss_nil)
      (pss_cons (ps_set (i := 3) sc_House_write.nd rfl (Or.inl rfl) (pmt (K := K) rfl (pv 0) T.c_House T.m_House_piece_with (ok_House_piece_with T) (hr.mono (by decide)) (pa_cons (pv 1) (pa_cons (pe_callB call_len_seq (by rfl) T.f_len PySem.boot_len (pa_cons (pv 2) pa_nil)) pa_nil))))
      (pss_cons (ps_if (pt_cmpR op_isN (pv 3) pe_non (nomark _))
        (pss_one (ps_ret (pe_lst (pa_cons (pe_gi T.i_NO_ONE) pa_nil))))
        pss_nil)
      (pss_cons (ps_for PassesOwn.never rfl (pi_enum (by rfl) T.f_enumerate (pa_cons (pv 2) pa_nil)) (ktup (K := K) rfl rfl (pgs_cons (pg_name (i := 4) sc_House_write.nd rfl (Or.inl rfl)) (pgs_cons (pg_name (i := 5) sc_House_write.nd rfl (Or.inl rfl)) pgs_nil)))
        (pss_one (ps_expr (pmt (K := K) rfl (pv 3) T.c_Piece T.m_Piece_put (ok_Piece_put T) (hr.mono (by decide)) (pa_cons (pe_op op_add (pv 1) (pv 4)) (pa_cons (pv 5) pa_nil))))))
      (pss_one (ps_ret (pe_lst (pa_cons pe_int pa_nil)))))))), ?_⟩
    unfold MHouse.write at hm
    obtain ⟨ok, BL, cb, hB, rfl⟩ := id hH
    refine ⟨_, rfl, _, _, rfl, .inl (SqL.of (hO.rd r)), rfl, _, rfl, ?_⟩
    rw [dec_int, List.length_map]
    by_cases q1 : row = []
    · rw [if_pos q1] at hm
      cases hm
      exact iteYd (by rw [q1] <;> rfl) ⟨(by show 1 ≤ sizeLine; decide), fun q hq => k _ L _ q hH (hO.new hq)⟩
    rw [if_neg q1] at hm
    have q1' : ¬ (row.length : Int) = 0 := fun e => q1 (List.length_eq_zero_iff.mp (by omega))
    refine iteNd q1' ?_
    have g := hO
    unfold houseC at g
    -- piece = self.piece_with(at, len(row))
    refine ⟨_, rfl, _, _, _, rfl, g.rd a, lkn nx_House_piece_with _, _, rfl, _, rfl, _, _, rfl, .inl (SqL.of (hO.rd r)), a, L, h, x, (row.length : Int), cb + (cel r (.lst (row.map V.int)) + F), by rw [List.length_map] <;> rfl, ok, hO.to (by ac_rfl), fun H1 g1 => ?_⟩
    cases h1 : pieceWith h.pieces x (row.length : Int) with
    | none =>
      rw [h1] at hm
      cases hm
      exact ⟨_, rfl, rfl, _, rfl, iteY rfl ⟨(by show 1 ≤ sizeLine; decide), fun q hq => k _ L _ q hH ((g1.new hq).to (by ac_rfl))⟩⟩
    | some p =>
      rw [h1] at hm
      obtain ⟨p1, hp1, hm⟩ := Option.map_eq_some_iff.mp hm
      cases hm
      have hl := look_pair ok.np h1
      refine ⟨_, rfl, rfl, _, rfl, iteN rfl ?_⟩
      have g2 := g1
      rw [house_split ok.np hl] at g2
      have pok : POk p.2 := ok.pok p (look_mem' hl)
      -- for k, byte in enumerate(row)
      refine ⟨_, rfl, r, _, rfl, SqL.of (g2.rd r), for_it (walk_enum (xs := row.map V.int)) (fun i σ H' => ∃ (pi : MPiece) (v1 v2 : Option V), σ = [some (.ref a), some (.int x), some (.ref r), some (.ref (L.pl p.1).a), v1, v2] ∧
        Owns H' (pieC K (L.pl p.1) pi + (houseX K a L h p.1 + (cb + (cel r (.lst (row.map V.int)) + F)))) ∧ POk pi ∧ pi.putAll (x + (i : Int)) (row.drop i) = some p1)
        ⟨p.2, none, none, rfl, g2.to (by ac_rfl), pok, by rw [show x + ((0 : Nat) : Int) = x by omega]; exact hp1⟩ (fun i σ H' _ h => ?_) ?_ ?_⟩
      · obtain ⟨_, _, _, _, h, _⟩ := h
        exact SqL.of (h.rd r)
      · rintro i y σ H' H'' hi ⟨pi, v1, v2, rfl, g3, pk, ht⟩ ⟨t, x1, x2, rfl, ht0, rfl, e1, e2⟩
        cases e1
        obtain ⟨z, hz1, rfl⟩ := get_ints e2
        have g4 := g3.new ht0 (o := .tup [.int ((i : Nat) : Int), .int z])
        obtain ⟨p2, hp2, ht⟩ := putAll_drop hz1 ht
        refine ⟨t, _, rfl, SqT.of (g4.rd t), rfl, _, _, rfl, _, _, rfl, rfl, ?_⟩
        have g5 := g4.r
        have g5' := g5
        unfold pieC at g5'
        refine ⟨_, rfl, _, _, _, rfl, g5'.rd (L.pl p.1).a, lkn nx_Piece_put _, _, rfl, _, rfl, _, _, rfl, rfl, _, rfl, L.pl p.1, pi, p2, _, _, _, rfl, g5, hp2, fun H5 g6 => ?_⟩
        exact ⟨p2, _, _, rfl, g6, pk.puts hp2, ht⟩
      · rintro σ H' ⟨pi, v1, v2, rfl, g3, pk, ht⟩
        rw [List.length_map, List.drop_length] at ht
        cases ht
        refine ⟨(by show 1 ≤ sizeLine; decide), fun q hq => k _ L _ q ⟨ok.put hl pk, BL, cb, hB, rfl⟩ ((g3.new hq).to ?_)⟩
        rw [house_put ok.np hl]
        ac_rfl
def sp_House_read (K : PySem.W.Frag) : Sp := fun vs H Q _ => ∃ (a : Addr) (L : HLay) (h : MHouse) (x many : Int) (F : Cells), vs = [.ref a, .int x, .int many] ∧ HOk h ∧ Owns H (houseC K a L h + F) ∧
  ∀ H' q, Owns H' (cel q (.lst ((h.read x many).map V.int)) + (houseC K a L h + F)) → Q (.ref q) H'
theorem sc_House_read : FnScope ["self", "at", "many", "piece", "k"] ["self", "at", "many"] (defScope s_House_read) := ⟨rfl, rfl, rfl, by decide +kernel, rfl, by decide +kernel, by decide +kernel⟩
theorem ok_House_read (T : Env K mg) : DOk P w K mg base 5 ("House", some "read") ["self", "at", "many"] (sp_House_read K) := by
  obtain ⟨fd, F⟩ := T.d_House_read
  refine ⟨fd, F.ok sc_House_read (fun vs H Q E h => ?_) (fun cdv A outer s H vs Q E hr h => ?_), F.bindsN fun _ _ _ _ _ _ us hl => match us, hl with | [_, _, _], _ => rfl, F.kp⟩
  · obtain ⟨a, L, h, x, many, F, rfl, ok, hO, k⟩ := h
    rfl
  · obtain ⟨a, L, h, x, many, F, rfl, ok, hO, k⟩ := h
    refine ⟨_, PSs.nox (pss_cons (ps_if (pt_not (pt_val (pcl (K := K) rfl T.g_is_from (ok_is_from T) (hr.mono (by decide)) (pa_cons (pv 2) (pa_cons pe_int (pa_cons pe_int pa_nil))))))
        (pss_one (ps_ret (pe_lst (pa_cons (pe_gi T.i_ODD) pa_nil))))
        pss_nil)
      (pss_cons (ps_if (pt_cmpR op_eq (pv 2) pe_int (nomark _))
        (pss_one (ps_ret (pe_lst (pa_cons pe_int pa_nil))))
        pss_nil)
      (pss_cons (ps_set (i := 3) sc_House_read.nd rfl (Or.inr rfl) (pmt (K := K) rfl (pv 0) T.c_House T.m_House_piece_with (ok_House_piece_with T) (hr.mono (by decide)) (pa_cons (pv 1) (pa_cons (pv 2) pa_nil))))
      (pss_cons (ps_if (pt_cmpR op_isN (pv 3) pe_non (nomark _))
        (pss_one (ps_ret (pe_lst (pa_cons (pe_gi T.i_NO_ONE) pa_nil))))
        pss_nil)
      (pss_one (ps_ret (pe_op op_cat (pe_lst (pa_cons pe_int pa_nil)) (pe_lc (own := [("k", 4)]) (g := gName 4) rfl sc_House_read.nd (pi_range1 (by rfl) T.f_range (pa_cons (pv 2) pa_nil)) (blkOk_by (own := [("k", 4)]) (N := ["self", "at", "many", "piece", "k"]) (sc := defScope s_House_read) (by decide +kernel)) (fun _ _ _ _ _ => pg_name (i := 4) sc_House_read.nd rfl (Or.inl rfl)) (fun _ _ _ _ _ => pts_nil) (fun _ _ _ _ _ => (pmt (K := K) rfl (pv 3) T.c_Piece T.m_Piece_byte (ok_Piece_byte T) (hr.mono (by decide)) (pa_cons (pe_op op_add (pv 1) (pv 4)) pa_nil))))))))))), ?_⟩
    unfold MHouse.read at k
    refine ⟨_, rfl, many, 0, 4096, rfl, _, rfl, ?_⟩
    by_cases q1 : isFrom many 0 4096 = true
    case neg =>
      have q1 : isFrom many 0 4096 = false := by simpa using q1
      rw [q1] at k ⊢
      exact iteY rfl ⟨(by show 1 ≤ sizeLine; decide), fun q hq => k _ q (hO.new hq)⟩
    rw [q1] at k ⊢
    rw [if_neg (by decide)] at k
    refine iteN rfl ⟨_, rfl, rfl, _, rfl, ?_⟩
    rw [dec_int]
    by_cases q2 : many = 0
    · rw [if_pos q2] at k
      exact iteYd q2 ⟨(by show 1 ≤ sizeLine; decide), fun q hq => k _ q (hO.new hq)⟩
    rw [if_neg q2] at k
    refine iteNd q2 ?_
    have g := hO
    unfold houseC at g
    refine ⟨_, rfl, _, _, _, rfl, g.rd a, lkn nx_House_piece_with _, _, rfl, _, rfl, a, L, h, x, many, F, rfl, ok, hO, fun H1 g1 => ?_⟩
    cases h1 : pieceWith h.pieces x many with
    | none =>
      rw [h1] at k
      exact ⟨_, rfl, rfl, _, rfl, iteY rfl ⟨(by show 1 ≤ sizeLine; decide), fun q hq => k _ q (g1.new hq)⟩⟩
    | some p =>
      rw [h1] at k
      have hl := look_pair ok.np h1
      refine ⟨_, rfl, rfl, _, rfl, iteN rfl ?_⟩
      obtain ⟨h0, h4⟩ : 0 ≤ many ∧ many ≤ 4096 := by
        unfold isFrom at q1
        simpa using q1
      refine ⟨(by show 1 ≤ sizeLine; decide), fun q hq => ?_⟩
      have g2 := g1.new hq (o := .lst [.int 0])
      refine ⟨_, rfl, many, rfl, by omega, by omega, fun D hD => lcA (List.range many.toNat) (fun i => .int (0 + (i : Int))) walk_range (List.length_range) (fun i H x H' hi y => ⟨y.1, i, List.getElem?_range hi, y.2⟩) g2 (fun _ _ => trivial) (fun _ => true) (fun i => V.int (p.2.byte (x + (i : Int)))) hD (Nat.le_trans (show many.toNat ≤ 4096 by omega) (by decide)) (fun _ => rfl) (fun _ _ _ _ Q q => q) (fun i _ _ H g Q q => ?_) (fun H g => ?_)⟩
      · have g' := g.r
        rw [houseD_eq] at g'
        have r := pread' ok g' hl
        exact ⟨_, rfl, _, _, _, rfl, r.1, lkn nx_Piece_byte _, _, rfl, _, rfl, _, _, rfl, rfl, L.pl p.1, p.2, x + (0 + (i : Int)), rfl, r.1, r.2, by rw [Int.zero_add]; exact q⟩
      · rw [List.filter_eq_self.mpr (fun _ _ => rfl)] at g
        refine ⟨q, D, _, _, rfl, rfl, g.rd q, g.get, ?_, fun t ht => ?_⟩
        · rw [List.length_map, List.length_range]
          exact le_lim (Nat.le_trans (show 1 + many.toNat ≤ 4097 by omega) (by decide))
        · have g2 := (g.new ht (o := .lst ([.int 0] ++ (List.range many.toNat).map (fun (i : Nat) => V.int (p.2.byte (x + (i : Int))))))).sub (d := cel t (.lst ([.int 0] ++ (List.range many.toNat).map (fun (i : Nat) => V.int (p.2.byte (x + (i : Int)))))) + (houseC K a L h + F)) (e := cel D _ + cel q _) (by ac_rfl)
          refine k _ t (g2.to ?_)
          rw [List.map_cons, List.map_map]
          rfl
def sp_House_told (K : PySem.W.Frag) : Sp := fun vs H Q _ => ∃ (a : Addr) (L : HLay) (h : MHouse) (place : Int) (F : Cells), vs = [.ref a, .int place] ∧ HOk h ∧ Owns H (houseC K a L h + F) ∧
  ∀ H' q, Owns H' (cel q (.lst ((h.told place).map V.int)) + (houseC K a L h + F)) → Q (.ref q) H'
theorem sc_House_told : FnScope ["self", "place", "piece"] ["self", "place"] (defScope s_House_told) := ⟨rfl, rfl, rfl, by decide +kernel, rfl, by decide +kernel, by decide +kernel⟩
theorem ok_House_told (T : Env K mg) : DOk P w K mg base 3 ("House", some "told") ["self", "place"] (sp_House_told K) := by
  obtain ⟨fd, F⟩ := T.d_House_told
  refine ⟨fd, F.ok sc_House_told (fun vs H Q E h => ?_) (fun cdv A outer s H vs Q E hr h => ?_), F.bindsN fun _ _ _ _ _ _ us hl => match us, hl with | [_, _], _ => rfl, F.kp⟩
  · obtain ⟨a, L, h, place, F, rfl, ok, hO, k⟩ := h
    rfl
  · obtain ⟨a, L, h, place, F, rfl, ok, hO, k⟩ := h
    refine ⟨_, PSs.nox (pss_cons (ps_if (pt_not (pt_val (pcl (K := K) rfl T.g_is_place (ok_is_place T) (hr.mono (by decide)) (pa_cons (pv 1) pa_nil))))
        (pss_one (ps_ret (pe_lst (pa_cons (pe_gi T.i_ODD) pa_nil))))
        pss_nil)
      (pss_cons (ps_set (i := 2) sc_House_told.nd rfl (Or.inl rfl) (pmt (K := K) rfl (pv 0) T.c_House T.m_House_piece_at (ok_House_piece_at T) (hr.mono (by decide)) (pa_cons (pv 1) pa_nil)))
      (pss_cons (ps_if (pt_cmpR op_isN (pv 2) pe_non (nomark _))
        (pss_one (ps_ret (pe_lst (pa_cons (pe_gi T.i_NO_ONE) pa_nil))))
        pss_nil)
      (pss_one (ps_ret (pe_lst (pa_cons (kfld (K := K) rfl (pv 2) rfl) (pa_cons (kfld (K := K) rfl (pv 2) rfl) (pa_cons (pmt0 (K := K) rfl (pv 2) T.c_Piece T.m_Piece_state (ok_Piece_state T) (hr.mono (by decide))) (pa_cons (kfld (K := K) rfl (pv 2) rfl) (pa_cons (kfld (K := K) rfl (pv 2) rfl) pa_nil))))))))))), ?_⟩
    unfold MHouse.told at k
    refine ⟨_, rfl, place, rfl, _, rfl, ?_⟩
    by_cases q1 : isPlace place = true
    case neg =>
      have q1 : isPlace place = false := by simpa using q1
      rw [q1] at k ⊢
      exact iteY rfl ⟨(by show 1 ≤ sizeLine; decide), fun q hq => k _ q (hO.new hq)⟩
    rw [q1] at k ⊢
    rw [if_neg (by decide)] at k
    refine iteN rfl ?_
    have g := hO
    unfold houseC at g
    refine ⟨_, rfl, _, _, _, rfl, g.rd a, lkn nx_House_piece_at _, _, rfl, a, L, h, place, F, rfl, ok, hO, fun H1 g1 => ?_⟩
    cases h1 : pieceAt h.pieces place with
    | none =>
      rw [h1] at k
      exact ⟨_, rfl, rfl, _, rfl, iteY rfl ⟨(by show 1 ≤ sizeLine; decide), fun q hq => k _ q (g1.new hq)⟩⟩
    | some p =>
      rw [h1] at k
      have hl := look_pair ok.np h1
      have g1' := g1
      rw [houseD_eq] at g1'
      have r := (pread' ok g1' hl).1
      refine ⟨_, rfl, rfl, _, rfl, iteN rfl ?_⟩
      exact ⟨_, rfl, _, _, _, _, _, rfl, r, T.c_Piece, T.n_Piece_number, lkz ix_Piece_number _, _, rfl, _, _, _, _, _, rfl, r, T.c_Piece, T.n_Piece_size, lkz ix_Piece_size _, _, rfl, _, _, _, rfl, r, lkn nx_Piece_state _, L.pl p.1, p.2, rfl, r, _, rfl, _, _, _, _, _, rfl, r, T.c_Piece, T.n_Piece_who, lkz ix_Piece_who _, _, rfl, _, _, _, _, _, rfl, r, T.c_Piece, T.n_Piece_giver, lkz ix_Piece_giver _, (by show 5 ≤ sizeLine; decide), fun q hq => k _ q (g1.new hq)⟩
def sp_House_whose (K : PySem.W.Frag) : Sp := fun vs H Q _ => ∃ (a : Addr) (L : HLay) (h : MHouse) (x : Int) (F : Cells), vs = [.ref a, .int x] ∧ HOk h ∧ Owns H (houseC K a L h + F) ∧
  ∀ H' q, Owns H' (cel q (.lst ((h.whose x).map V.int)) + (houseC K a L h + F)) → Q (.ref q) H'
theorem sc_House_whose : FnScope ["self", "at", "piece"] ["self", "at"] (defScope s_House_whose) := ⟨rfl, rfl, rfl, by decide +kernel, rfl, by decide +kernel, by decide +kernel⟩
theorem ok_House_whose (T : Env K mg) : DOk P w K mg base 4 ("House", some "whose") ["self", "at"] (sp_House_whose K) := by
  obtain ⟨fd, F⟩ := T.d_House_whose
  refine ⟨fd, F.ok sc_House_whose (fun vs H Q E h => ?_) (fun cdv A outer s H vs Q E hr h => ?_), F.bindsN fun _ _ _ _ _ _ us hl => match us, hl with | [_, _], _ => rfl, F.kp⟩
  · obtain ⟨a, L, h, x, F, rfl, ok, hO, k⟩ := h
    rfl
  · obtain ⟨a, L, h, x, F, rfl, ok, hO, k⟩ := h
    refine ⟨_, PSs.nox (pss_cons (ps_if (pt_not (pt_val (pcl (K := K) rfl T.g_is_place (ok_is_place T) (hr.mono (by decide)) (pa_cons (pv 1) pa_nil))))
        (pss_one (ps_ret (pe_lst (pa_cons (pe_gi T.i_ODD) pa_nil))))
        pss_nil)
      (pss_cons (ps_set (i := 2) sc_House_whose.nd rfl (Or.inl rfl) (pmt (K := K) rfl (pv 0) T.c_House T.m_House_piece_with (ok_House_piece_with T) (hr.mono (by decide)) (pa_cons (pv 1) (pa_cons pe_int pa_nil))))
      (pss_cons (ps_if (pt_cmpR op_isN (pv 2) pe_non (nomark _))
        (pss_one (ps_ret (pe_lst (pa_cons (pe_gi T.i_NO_ONE) pa_nil))))
        pss_nil)
      (pss_one (ps_ret (pe_lst (pa_cons (kfld (K := K) rfl (pv 2) rfl) (pa_cons (kfld (K := K) rfl (pv 2) rfl) (pa_cons (pe_op op_sub (pv 1) (kfld (K := K) rfl (pv 2) rfl)) (pa_cons (kfld (K := K) rfl (pv 2) rfl) (pa_cons (pmt0 (K := K) rfl (pv 2) T.c_Piece T.m_Piece_state (ok_Piece_state T) (hr.mono (by decide))) pa_nil))))))))))), ?_⟩
    unfold MHouse.whose at k
    refine ⟨_, rfl, x, rfl, _, rfl, ?_⟩
    by_cases q1 : isPlace x = true
    case neg =>
      have q1 : isPlace x = false := by simpa using q1
      rw [q1] at k ⊢
      exact iteY rfl ⟨(by show 1 ≤ sizeLine; decide), fun q hq => k _ q (hO.new hq)⟩
    rw [q1] at k ⊢
    rw [if_neg (by decide)] at k
    refine iteN rfl ?_
    have g := hO
    unfold houseC at g
    refine ⟨_, rfl, _, _, _, rfl, g.rd a, lkn nx_House_piece_with _, _, rfl, a, L, h, x, 1, F, rfl, ok, hO, fun H1 g1 => ?_⟩
    cases h1 : pieceWith h.pieces x 1 with
    | none =>
      rw [h1] at k
      exact ⟨_, rfl, rfl, _, rfl, iteY rfl ⟨(by show 1 ≤ sizeLine; decide), fun q hq => k _ q (g1.new hq)⟩⟩
    | some p =>
      rw [h1] at k
      have hl := look_pair ok.np h1
      have g1' := g1
      rw [houseD_eq] at g1'
      have r := (pread' ok g1' hl).1
      refine ⟨_, rfl, rfl, _, rfl, iteN rfl ?_⟩
      exact ⟨_, rfl, _, _, _, _, _, rfl, r, T.c_Piece, T.n_Piece_number, lkz ix_Piece_number _, _, rfl, _, _, _, _, _, rfl, r, T.c_Piece, T.n_Piece_place, lkz ix_Piece_place _, _, rfl, _, rfl, _, _, _, _, _, rfl, r, T.c_Piece, T.n_Piece_place, lkz ix_Piece_place _, _, _, rfl, rfl, _, rfl, _, _, _, _, _, rfl, r, T.c_Piece, T.n_Piece_size, lkz ix_Piece_size _, _, rfl, _, _, _, rfl, r, lkn nx_Piece_state _, L.pl p.1, p.2, rfl, r, (by show 5 ≤ sizeLine; decide), fun q hq => k _ q (g1.new hq)⟩
end
end GK
end
section
set_option Elab.async false
set_option linter.all false
set_option maxRecDepth 100000
set_option maxHeartbeats 4000000
namespace GK
open PySem PySem.Spec PyProof.Rows L2
section
variable {P : Program} {w : World} {K : PySem.W.Frag} {mg : Str → Option Value} {base : Heap}
theorem yesI {σ : L2.St} {H : Hp} {Qd : Bool → Hp → Prop} (h : Qd true H) : tYes σ H Qd := h
def sp_House_let (K : PySem.W.Frag) : Sp := fun vs H Q _ => ∃ (a b : Addr) (L : HLay) (h h' : MHouse) (A A' : MAsks) (xs : List Int) (c d F : Cells), vs = [.ref a, .ref b] ∧ HouseL K a L h c ∧ AsksAt K b A d ∧ Owns H (c + (d + F)) ∧ h.let_ A = some (A', h', xs) ∧
  ∀ H' L' c' d' q, HouseL K a L' h' c' → AsksAt K b A' d' → Owns H' (cel q (.lst (xs.map V.int)) + (c' + (d' + F))) → Q (.ref q) H'
theorem sc_House_let : FnScope ["self", "asks", "many", "turn"] ["self", "asks"] (defScope s_House_let) := ⟨rfl, rfl, rfl, by decide +kernel, rfl, by decide +kernel, by decide +kernel⟩
theorem ok_House_let (T : Env K mg) : DOk P w K mg base 7 ("House", some "let") ["self", "asks"] (sp_House_let K) := by
  obtain ⟨fd, F⟩ := T.d_House_let
  refine ⟨fd, F.ok sc_House_let (fun vs H Q E h => ?_) (fun cdv A outer s H vs Q E hr h => ?_), F.bindsN fun _ _ _ _ _ _ us hl => match us, hl with | [_, _], _ => rfl, F.kp⟩
  · obtain ⟨a, b, L, h, h', A0, A', xs, c, d, F, rfl, ⟨ok, BL, cb, hB, rfl⟩, hA, hO, hm, k⟩ := h
    rfl
  · obtain ⟨a, b, L, h, h', A0, A', xs, c, d, F, rfl, ⟨ok, BL, cb, hB, rfl⟩, hA, hO, hm, k⟩ := h
    refine ⟨_, PSs.nox (pss_cons (ps_set (i := 2) sc_House_let.nd rfl (Or.inl rfl) (pe_callB call_len_seq (by rfl) T.f_len PySem.boot_len (pa_cons (kfld (K := K) rfl (pv 0) rfl) pa_nil)))
      (pss_cons (ps_for PassesOwn.never rfl (pi_range1 (by rfl) T.f_range (pa_cons (pv 2) pa_nil)) (pg_name (i := 3) sc_House_let.nd rfl (Or.inl rfl))
        (pss_one (ps_expr (pmt (K := K) rfl (pv 0) T.c_House T.m_House_let_go (ok_House_let_go T) (hr.mono (by decide)) (pa_cons (pv 1) pa_nil)))))
      (pss_one (ps_ret (pe_lst (pa_cons (pv 2) pa_nil)))))), ?_⟩
    obtain ⟨⟨A1, h1⟩, ht, hm⟩ := Option.map_eq_some_iff.mp hm
    cases hm
    have g := hO
    unfold houseC at g
    -- many = len(self.waiting)
    refine ⟨_, rfl, _, _, _, _, _, rfl, g.rd a, T.c_House, T.n_House_waiting, lkz ix_House_waiting _, _, _, rfl, .inl (SqL.of (g.rd L.wt)), ?_⟩
    rw [List.length_map]
    have hw := ok.lw
    have hLim : (LIM : Nat) = 16777216 := rfl
    refine ⟨_, rfl, _, rfl, by omega, by omega, ?_⟩
    rw [Int.toNat_natCast]
    refine for_range (lo := 0) (n := h.waiting.length) (fun i σ H' => ∃ (A2 : MAsks) (h2 : MHouse) (c2 d2 : Cells) (v : Option V), σ = [some (.ref a), some (.ref b), some (.int (h.waiting.length : Int)), v] ∧ HouseL K a L h2 c2 ∧ AsksAt K b A2 d2 ∧ Owns H' (c2 + (d2 + F)) ∧ letN (h.waiting.length - i) A2 h2 = some (A1, h1))
      ⟨A0, h, _, d, none, rfl, ⟨ok, BL, cb, hB, rfl⟩, hA, hO, ht⟩ ?_ ?_
    · rintro i σ H' hi ⟨A2, h2, c2, d2, v, rfl, ⟨ok2, BL2, cb2, hB2, rfl⟩, hA2, g2, ht⟩
      have e : h.waiting.length - i = (h.waiting.length - (i + 1)) + 1 := by omega
      rw [e] at ht
      obtain ⟨⟨A3, h3⟩, hg, ht⟩ := Option.bind_eq_some_iff.mp ht
      have g2' := g2
      unfold houseC at g2'
      exact ⟨_, rfl, _, _, _, rfl, g2'.rd a, lkn nx_House_let_go _, _, rfl, a, b, L, h2, h3, A2, A3, _, d2, F, rfl, ⟨ok2, BL2, cb2, hB2, rfl⟩, hA2, g2, hg, fun H8 c8 d8 hH8 hA8 g8 => ⟨A3, h3, c8, d8, _, rfl, hH8, hA8, g8, ht⟩⟩
    · rintro σ H' ⟨A2, h2, c2, d2, v, rfl, hH2, hA2, g2, ht⟩
      rw [Nat.sub_self] at ht
      cases ht
      exact ⟨_, rfl, (by show 1 ≤ sizeLine; decide), fun q hq => k _ L _ _ q hH2 hA2 (g2.new hq)⟩
def sp_House_look (K : PySem.W.Frag) : Sp := fun vs H Q _ => ∃ (a b : Addr) (L : HLay) (h h' : MHouse) (A A' : MAsks) (xs : List Int) (c d F : Cells), vs = [.ref a, .ref b] ∧ HouseL K a L h c ∧ AsksAt K b A d ∧ Owns H (c + (d + F)) ∧ h.look_ A = some (A', h', xs) ∧
  ∀ H' L' c' d' q, HouseL K a L' h' c' → AsksAt K b A' d' → Owns H' (cel q (.lst (xs.map V.int)) + (c' + (d' + F))) → Q (.ref q) H'
theorem lookAt_bl {h h1 : MHouse} {A A1 : MAsks} {n z : Int} (hl : h.lookAt A n = some (A1, h1, z)) : h1.bl = h.bl := by
  obtain ⟨p2, hp2, hl⟩ := Option.bind_eq_some_iff.mp hl
  obtain ⟨⟨A9, h9⟩, ht, hl⟩ := Option.bind_eq_some_iff.mp hl
  obtain ⟨p3, hp3, hl⟩ := Option.bind_eq_some_iff.mp hl
  cases hl
  exact (told_L ht).bl
theorem sc_House_look : FnScope ["self", "asks", "number"] ["self", "asks"] (defScope s_House_look) := ⟨rfl, rfl, rfl, by decide +kernel, rfl, by decide +kernel, by decide +kernel⟩
theorem ok_House_look (T : Env K mg) : DOk P w K mg base 6 ("House", some "look") ["self", "asks"] (sp_House_look K) := by
  obtain ⟨fd, F⟩ := T.d_House_look
  refine ⟨fd, F.ok sc_House_look (fun vs H Q E h => ?_) (fun cdv A outer s H vs Q E hr h => ?_), F.bindsN fun _ _ _ _ _ _ us hl => match us, hl with | [_, _], _ => rfl, F.kp⟩
  · obtain ⟨a, b, L, h, h', A0, A', xs, c, d, F, rfl, ⟨ok, BL, cb, hB, rfl⟩, hA, hO, hm, k⟩ := h
    rfl
  · obtain ⟨a, b, L, h, h', A0, A', xs, c, d, F, rfl, ⟨ok, BL, cb, hB, rfl⟩, hA, hO, hm, k⟩ := h
    refine ⟨_, PSs.nox (pss_one (ps_ret (pe_lst (pa_cons (pe_callB (cr_sum rfl) (by rfl) T.f_sum (by decide +kernel) (pa_cons (pe_lc (own := [("number", 2)]) (g := gName 2) rfl sc_House_look.nd (kpi (K := K) rfl (pe_callB (cr_sortedDI rfl) (by rfl) T.f_sorted (by decide +kernel) (pa_cons (kfld (K := K) rfl (pv 0) rfl) pa_nil))) (blkOk_by (own := [("number", 2)]) (N := ["self", "asks", "number"]) (sc := defScope s_House_look) (by decide +kernel)) (fun _ _ _ _ _ => pg_name (i := 2) sc_House_look.nd rfl (Or.inl rfl)) (fun _ _ _ _ _ => pts_nil) (fun _ _ _ _ _ => (pmt (K := K) rfl (pv 0) T.c_House T.m_House_look_at (ok_House_look_at T) (hr.mono (by decide)) (pa_cons (pv 1) (pa_cons (pe_dget (hu_of hr) (kfld (K := K) rfl (pv 0) rfl) (pv 2) (fun _ _ => rfl)) pa_nil))))) pa_nil)) pa_nil)))), ?_⟩
    obtain ⟨⟨A1, h1, zs⟩, ht, hm⟩ := Option.map_eq_some_iff.mp hm
    cases hm
    have g := hO
    unfold houseC at g
    refine ⟨_, rfl, _, _, _, _, _, rfl, g.rd a, T.c_House, T.n_House_pieces, lkz ix_House_pieces _, L.pd, _, h.pieces.map (·.1), rfl, .inl (g.rd L.pd), keys_dk, fun ys q hp hs hq => ?_⟩
    obtain rfl := isort_of hp hs
    have g1 := hO.new hq (o := .lst ((isort (h.pieces.map (·.1))).map V.int))
    have hlen : (isort (h.pieces.map (·.1))).length ≤ LIM := by
      rw [isort_length, List.length_map]
      exact ok.lp
    refine ⟨q, rfl, ⟨_, SqL.of g1.get⟩, fun D hD => lc_it (walk_list (K := K) (a := q) (xs := (isort (h.pieces.map (·.1))).map V.int)) (fun i H' => ∃ (A2 : MAsks) (h2 : MHouse) (d2 : Cells) (ws us : List Int), HOk h2 ∧ h2.bl = h.bl ∧ AsksAt K b A2 d2 ∧ Owns H' (cel D (.lst (ws.map V.int)) + (houseC K a L h2 + (d2 + (cb + (cel q (.lst ((isort (h.pieces.map (·.1))).map V.int)) + F))))) ∧ ws.length = i ∧ ws ++ us = zs ∧ lookL A2 h2 ((isort (h.pieces.map (·.1))).drop i) = some (A1, h1, us))
      ⟨A0, h, d, [], zs, ok, rfl, hA, (g1.new hD).to (by
        show _ = cel D (.lst []) + _
        ac_rfl), rfl, rfl, ht⟩ (fun i H' _ h => ?_) ?_ ?_⟩
    · obtain ⟨_, _, _, _, _, _, _, _, h, _⟩ := h
      exact SqL.of (h.rd q)
    · rintro i y H' H'' hi ⟨A2, h2, d2, ws, us, ok2, eb, hA2, g2, hwl, hws, ht⟩ yy
      obtain ⟨rfl, n, hn, rfl⟩ := yAt_ints i _ _ _ hi yy
      obtain ⟨q1, q2⟩ := List.getElem?_eq_some_iff.mp hn
      rw [List.drop_eq_getElem_cons q1, q2] at ht
      obtain ⟨⟨A3, h3, z⟩, hg, ht⟩ := Option.bind_eq_some_iff.mp ht
      obtain ⟨⟨A4, h4, us2⟩, ht2, he⟩ := Option.map_eq_some_iff.mp ht
      cases he
      have g2' := g2
      unfold houseC at g2'
      obtain ⟨p, hp, _⟩ := Option.bind_eq_some_iff.mp hg
      refine ⟨rfl, ?_⟩
      refine yesI (iteY rfl ?_)
      refine ⟨_, rfl, _, _, _, rfl, g2'.rd a, lkn nx_House_look_at _, _, rfl, _, rfl, _, _, _, _, _, rfl, g2'.rd a, T.c_House, T.n_House_pieces, lkz ix_House_pieces _, _, rfl, L.pd, _, rfl, dget (g := gP L) (g2'.rd L.pd) hp, a, b, L, h2, h3, A2, A3, n, z, d2, cel D (.lst (ws.map V.int)) + (cb + (cel q (.lst ((isort (h.pieces.map (·.1))).map V.int)) + F)), rfl, ok2, hA2, g2.to (by ac_rfl), hg, fun H3 d3 ok3 hA3 g3 => ?_⟩
      refine ⟨_, g3.rd D, ?_, A3, h3, d3, ws ++ [z], us2, ok3, by rw [lookAt_bl hg]; exact eb, hA3, ?_, by rw [List.length_append, hwl] <;> rfl, by rw [List.append_assoc]; exact hws, ht2⟩
      · rw [List.length_map, hwl]
        have : i < (isort (h.pieces.map (·.1))).length := q1
        exact lt_lim (by omega)
      · have g4 := g3.up D (.lst (ws.map V.int ++ [.int z]))
        rw [List.map_append]
        exact g4.to (by
          show _ = cel D (.lst (ws.map V.int ++ [.int z])) + _
          ac_rfl)
    rintro H5 ⟨A2, h2, d2, ws, us, ok2, eb, hA2, g2, hwl, hws, ht⟩
    rw [List.length_map, List.drop_length] at ht
    cases ht
    rw [List.append_nil] at hws
    subst hws
    exact ⟨D, ws, rfl, SqL.of g2.get, (by show 1 ≤ sizeLine; decide), fun t ht0 => k _ L _ _ t ⟨ok2, BL, cb, by rw [eb]; exact hB, rfl⟩ hA2 ((g2.new ht0).sub (e := cel D (.lst (ws.map V.int)) + cel q (.lst ((isort (h.pieces.map (·.1))).map V.int))) (by
      show _ = cel t (.lst [.int ws.sum]) + _ + _
      ac_rfl))⟩
def sp_House_living (K : PySem.W.Frag) : Sp := fun vs H Q _ => ∃ (a : Addr) (L : HLay) (h : MHouse) (F : Cells), vs = [.ref a] ∧ HOk h ∧ Owns H (houseC K a L h + F) ∧
  ∀ H' q, Owns H' (cel q (.lst ((livingOf h.pieces).map fun n => V.ref (L.pl n).a)) + (houseC K a L h + F)) → Q (.ref q) H'
theorem sc_House_living : FnScope ["self", "number"] ["self"] (defScope s_House_living) := ⟨rfl, rfl, rfl, by decide +kernel, rfl, by decide +kernel, by decide +kernel⟩
theorem ok_House_living (T : Env K mg) : DOk P w K mg base 1 ("House", some "living") ["self"] (sp_House_living K) := by
  obtain ⟨fd, F⟩ := T.d_House_living
  refine ⟨fd, F.ok sc_House_living (fun vs H Q E h => ?_) (fun cdv A outer s H vs Q E hr h => ?_), F.bindsN fun _ _ _ _ _ _ us hl => match us, hl with | [_], _ => rfl, F.kp⟩
  · obtain ⟨a, L, h, F, rfl, ok, hO, k⟩ := h
    rfl
  · obtain ⟨a, L, h, F, rfl, ok, hO, k⟩ := h
    refine ⟨_, PSs.nox (pss_one (ps_ret (pe_lc (own := [("number", 1)]) (g := gName 1) rfl sc_House_living.nd (kpi (K := K) rfl (pe_callB (cr_sortedDI rfl) (by rfl) T.f_sorted (by decide +kernel) (pa_cons (kfld (K := K) rfl (pv 0) rfl) pa_nil))) (blkOk_by (own := [("number", 1)]) (N := ["self", "number"]) (sc := defScope s_House_living) (by decide +kernel)) (fun _ _ _ _ _ => pg_name (i := 1) sc_House_living.nd rfl (Or.inl rfl)) (fun _ _ _ _ _ => pts_one (pt_not (pt_val (kfld (K := K) rfl (pe_dget (hu_of hr) (kfld (K := K) rfl (pv 0) rfl) (pv 1) (fun _ _ => rfl)) rfl)))) (fun _ _ _ _ _ => (pe_dget (hu_of hr) (kfld (K := K) rfl (pv 0) rfl) (pv 1) (fun _ _ => rfl)))))), ?_⟩
    have g := hO
    unfold houseC at g
    refine ⟨_, rfl, _, _, _, _, _, rfl, g.rd a, T.c_House, T.n_House_pieces, lkz ix_House_pieces _, L.pd, _, h.pieces.map (·.1), rfl, .inl (g.rd L.pd), keys_dk, fun ys q hp hs hq => ?_⟩
    obtain rfl := isort_of hp hs
    have g1 := hO.new hq (o := .lst ((isort (h.pieces.map (·.1))).map V.int))
    refine ⟨q, rfl, ⟨_, SqL.of g1.get⟩, fun D hD => lcA (isort (h.pieces.map (·.1))) V.int (walk_list (K := K) (a := q) (xs := (isort (h.pieces.map (·.1))).map V.int)) (List.length_map _).symm yAt_ints g1 (fun H g => SqL.of g.get) (fun n => match look h.pieces n with
      | some p => !p.held
      | none => false) (fun n => V.ref (L.pl n).a) hD (by rw [List.length_map, isort_length, List.length_map]; exact ok.lp) (fun _ => rfl) (fun n hn H g Q q => ?_) (fun n hn hb H g Q q => ?_) (fun H g => ?_)⟩
    · have hm : n ∈ h.pieces.map (·.1) := (List.mergeSort_perm _ _).mem_iff.mp hn
      obtain ⟨p, hp⟩ := look_of_key hm
      rw [hp] at q
      have g2 := g.r
      rw [houseD_eq] at g2
      have r := (pread' ok g2 hp).1
      unfold houseD at g2
      exact ⟨_, rfl, _, _, _, _, _, rfl, g2.rd a, T.c_House, T.n_House_pieces, lkz ix_House_pieces _, _, rfl, L.pd, _, rfl, dget (g := gP L) (g2.rd L.pd) hp, _, _, _, _, _, rfl, r, T.c_Piece, T.n_Piece_is_held, lkz ix_Piece_is_held _, _, rfl, q⟩
    · have hm : n ∈ h.pieces.map (·.1) := (List.mergeSort_perm _ _).mem_iff.mp hn
      obtain ⟨p, hp⟩ := look_of_key hm
      have g2 := g.r
      rw [houseD_eq] at g2
      unfold houseD at g2
      exact ⟨_, rfl, _, _, _, _, _, rfl, g2.rd a, T.c_House, T.n_House_pieces, lkz ix_House_pieces _, _, rfl, L.pd, _, rfl, dget (g := gP L) (g2.rd L.pd) hp, q⟩
    · exact k _ D (g.sub (e := cel q (.lst ((isort (h.pieces.map (·.1))).map V.int))) (by
        unfold livingOf
        ac_rfl))
theorem livingOf_look {l : List (Int × MPiece)} {n : Int} (h : n ∈ livingOf l) : ∃ p, look l n = some p := by
  have := (List.mem_filter.mp h).1
  exact look_of_key ((List.mergeSort_perm _ _).mem_iff.mp this)
theorem livingOf_length (l : List (Int × MPiece)) : (livingOf l).length ≤ l.length := by
  refine Nat.le_trans (List.length_filter_le _ _) ?_
  rw [isort_length, List.length_map]
  exact Nat.le_refl _
def sp_House_left (K : PySem.W.Frag) : Sp := fun vs H Q _ => ∃ (a b : Addr) (L : HLay) (h h' : MHouse) (A A' : MAsks) (xs : List Int) (c d F : Cells), vs = [.ref a, .ref b] ∧ HouseL K a L h c ∧ AsksAt K b A d ∧ Owns H (c + (d + F)) ∧ h.left A = some (A', h', xs) ∧
  ∀ H' L' c' d' q, HouseL K a L' h' c' → AsksAt K b A' d' → Owns H' (cel q (.lst (xs.map V.int)) + (c' + (d' + F))) → Q (.ref q) H'
theorem told_leftL : ∀ {l : List Int} {A A1 : MAsks} {h h1 : MHouse}, leftL A h l = some (A1, h1) → Told h h1
  | [], A, A1, h, h1, e => by
    cases e
    exact ⟨rfl⟩
  | n :: l, A, A1, h, h1, e => by
    obtain ⟨p, _, e⟩ := Option.bind_eq_some_iff.mp e
    obtain ⟨⟨A2, h2⟩, e1, e2⟩ := Option.bind_eq_some_iff.mp e
    exact told_trans (told_tell e1) (told_leftL e2)
theorem sc_House_left : FnScope ["self", "asks", "some", "piece"] ["self", "asks"] (defScope s_House_left) := ⟨rfl, rfl, rfl, by decide +kernel, rfl, by decide +kernel, by decide +kernel⟩
theorem ok_House_left (T : Env K mg) : DOk P w K mg base 4 ("House", some "left") ["self", "asks"] (sp_House_left K) := by
  obtain ⟨fd, F⟩ := T.d_House_left
  refine ⟨fd, F.ok sc_House_left (fun vs H Q E h => ?_) (fun cdv A outer s H vs Q E hr h => ?_), F.bindsN fun _ _ _ _ _ _ us hl => match us, hl with | [_, _], _ => rfl, F.kp⟩
  · obtain ⟨a, b, L, h, h', A0, A', xs, c, d, F, rfl, ⟨ok, BL, cb, hB, rfl⟩, hA, hO, hm, k⟩ := h
    rfl
  · obtain ⟨a, b, L, h, h', A0, A', xs, c, d, F, rfl, ⟨ok, BL, cb, hB, rfl⟩, hA, hO, hm, k⟩ := h
    refine ⟨_, PSs.nox (pss_cons (ps_set (i := 2) sc_House_left.nd rfl (Or.inl rfl) (pmt0 (K := K) rfl (pv 0) T.c_House T.m_House_living (ok_House_living T) (hr.mono (by decide))))
      (pss_cons (ps_for PassesOwn.never rfl (kpi (K := K) rfl (pv 2)) (pg_name (i := 3) sc_House_left.nd rfl (Or.inl rfl))
        (pss_one (ps_expr (pmt (K := K) rfl (pv 0) T.c_House T.m_House_tell (ok_House_tell T) (hr.mono (by decide)) (pa_cons (pv 1) (pa_cons (pe_gi T.i_LEFT) (pa_cons (kfld (K := K) rfl (pv 3) rfl) (pa_cons (kfld (K := K) rfl (pv 3) rfl) (pa_cons (kfld (K := K) rfl (pv 3) rfl) (pa_cons (kfld (K := K) rfl (pv 3) rfl) pa_nil))))))))))
      (pss_one (ps_ret (pe_lst (pa_cons (pe_callB call_len_seq (by rfl) T.f_len PySem.boot_len (pa_cons (pv 2) pa_nil)) pa_nil)))))), ?_⟩
    obtain ⟨⟨A1, h1⟩, ht, hm⟩ := Option.map_eq_some_iff.mp hm
    cases hm
    have g := hO
    unfold houseC at g
    -- some = self.living()
    refine ⟨_, rfl, _, _, _, rfl, g.rd a, lkn nx_House_living _, a, L, h, cb + (d + F), rfl, ok, hO.to (cells_assoc _ _ _), fun H1 q g1 => ?_⟩
    refine ⟨_, rfl, q, rfl, ⟨_, SqL.of g1.get⟩, for_list (K := K) (a := q) (xs := (livingOf h.pieces).map fun n => V.ref (L.pl n).a) (fun i σ H' => ∃ (A2 : MAsks) (h2 : MHouse) (d2 : Cells) (v : Option V), σ = [some (.ref a), some (.ref b), some (.ref q), v] ∧ Told h h2 ∧ AsksAt K b A2 d2 ∧
      Owns H' (houseC K a L h2 + (d2 + (cb + (cel q (.lst ((livingOf h.pieces).map fun n => V.ref (L.pl n).a)) + F)))) ∧ leftL A2 h2 ((livingOf h.pieces).drop i) = some (A1, h1))
      ⟨A0, h, d, none, rfl, ⟨rfl⟩, hA, g1.to (by ac_rfl), ht⟩ (fun i σ H' _ h => ?_) ?_ ?_⟩
    · obtain ⟨_, _, _, _, _, _, _, h, _⟩ := h
      exact SqL.of (h.rd q)
    · rintro i y σ H' hi ⟨A2, h2, d2, v, rfl, td, hA2, g2, ht⟩
      rw [List.getElem?_map] at hi
      obtain ⟨n, hn, rfl⟩ := Option.map_eq_some_iff.mp hi
      obtain ⟨q1, q2⟩ := List.getElem?_eq_some_iff.mp hn
      rw [List.drop_eq_getElem_cons q1, q2] at ht
      obtain ⟨p, hp, ht⟩ := Option.bind_eq_some_iff.mp ht
      obtain ⟨⟨A3, h3⟩, hg, ht⟩ := Option.bind_eq_some_iff.mp ht
      have g2' := g2
      rw [houseD_eq] at g2'
      have r := (pread' (td.ok ok) g2' hp).1
      unfold houseD at g2'
      refine ⟨_, rfl, _, _, _, rfl, g2'.rd a, lkn nx_House_tell _, _, rfl, _, rfl, _, _, _, _, _, rfl, r, T.c_Piece, T.n_Piece_place, lkz ix_Piece_place _, _, rfl, _, _, _, _, _, rfl, r, T.c_Piece, T.n_Piece_size, lkz ix_Piece_size _, _, rfl, _, _, _, _, _, rfl, r, T.c_Piece, T.n_Piece_number, lkz ix_Piece_number _, _, rfl, _, _, _, _, _, rfl, r, T.c_Piece, T.n_Piece_who, lkz ix_Piece_who _, a, b, L, h2, h3, A2, A3, 7, p.place, p.size, p.number, p.who, d2, _, rfl, hA2, g2, hg, fun H5 d5 hA5 g5 => ?_⟩
      exact ⟨A3, h3, d5, _, rfl, told_trans td (told_tell hg), hA5, g5, ht⟩
    · rintro σ H' ⟨A2, h2, d2, v, rfl, td, hA2, g2, ht⟩
      rw [List.length_map, List.drop_length] at ht
      have eht : A2 = A1 ∧ h2 = h1 := Prod.mk.inj (Option.some.inj ht)
      obtain ⟨rfl, rfl⟩ := eht
      refine ⟨_, rfl, _, _, rfl, .inl (SqL.of (g2.rd q)), (by show 1 ≤ sizeLine; decide), fun t ht0 => ?_⟩
      rw [List.length_map]
      exact k _ L _ _ t ⟨td.ok ok, BL, cb, by rw [td.bl]; exact hB, rfl⟩ hA2 ((g2.new ht0).sub (e := cel q (.lst ((livingOf h.pieces).map fun n => V.ref (L.pl n).a))) (by
        show _ = cel t (.lst [.int ((livingOf h.pieces).length : Int)]) + _ + _
        ac_rfl))
theorem listL_len {l : List (Int × MPiece)} : ∀ {ns : List Int} {xs : List Int}, listL l ns = some xs → xs.length = 3 * ns.length
  | [], xs, h => by
    cases h
    rfl
  | n :: ns, xs, h => by
    obtain ⟨p, _, h⟩ := Option.bind_eq_some_iff.mp h
    obtain ⟨ys, hy, rfl⟩ := Option.map_eq_some_iff.mp h
    simp [listL_len hy]
    omega
theorem cut2 (ns : List Int) (a b : Nat) (h : a ≤ b) : cutV (ns.map V.int) (some (a : Int)) (some (b : Int)) = ((ns.drop a).take (b - a)).map V.int := by
  unfold cutV
  rw [HT.sIx_nat, HT.sIx_nat, List.map_take, List.map_drop]
  generalize ns.map V.int = l
  rcases Nat.le_total a l.length with h1 | h1
  · rw [Nat.min_eq_left h1]
    rcases Nat.le_total b l.length with h2 | h2
    · rw [Nat.min_eq_left h2]
    · rw [Nat.min_eq_right h2, List.take_of_length_le (by rw [List.length_drop]; exact Nat.le_refl _), List.take_of_length_le (by rw [List.length_drop]; omega)]
  · rw [Nat.min_eq_right h1, List.drop_length, List.drop_of_length_le h1, List.take_nil, List.take_nil]
theorem cut1 (xs : List V) : cutV xs (some 1) none = xs.drop 1 := by
  unfold cutV
  rw [show (some (1 : Int)) = some ((1 : Nat) : Int) from rfl, HT.sIx_nat, HT.sIx_none]
  cases xs with
  | nil => rfl
  | cons x l =>
    rw [Nat.min_eq_left (by rw [List.length_cons]; omega)]
    exact List.take_of_length_le (by rw [List.length_drop]; exact Nat.le_refl _)
def sp_House_listed (K : PySem.W.Frag) : Sp := fun vs H Q _ => ∃ (a : Addr) (L : HLay) (h : MHouse) (low most : Int) (xs : List Int) (F : Cells), vs = [.ref a, .int low, .int most] ∧ HOk h ∧ Owns H (houseC K a L h + F) ∧ h.listed low most = some xs ∧
  ∀ H' q, Owns H' (cel q (.lst (xs.map V.int)) + (houseC K a L h + F)) → Q (.ref q) H'
theorem sc_House_listed : FnScope ["self", "low", "most", "answer", "number", "piece"] ["self", "low", "most"] (defScope s_House_listed) := ⟨rfl, rfl, rfl, by decide +kernel, rfl, by decide +kernel, by decide +kernel⟩
theorem ok_House_listed (T : Env K mg) : DOk P w K mg base 2 ("House", some "listed") ["self", "low", "most"] (sp_House_listed K) := by
  obtain ⟨fd, F⟩ := T.d_House_listed
  refine ⟨fd, F.ok sc_House_listed (fun vs H Q E h => ?_) (fun cdv A outer s H vs Q E hr h => ?_), F.bindsN fun _ _ _ _ _ _ us hl => match us, hl with | [_, _, _], _ => rfl, F.kp⟩
  · obtain ⟨a, L, h, low, most, xs, F, rfl, ok, hO, hm, k⟩ := h
    rfl
  · obtain ⟨a, L, h, low, most, xs, F, rfl, ok, hO, hm, k⟩ := h
    refine ⟨_, PSs.nox (pss_cons (ps_if (PW.pt (pw_or (pt_cmpR op_lt (pv 1) pe_int (nomark _)) (pw_or1 (pt_not (pt_val (pcl (K := K) rfl T.g_is_from (ok_is_from T) (hr.mono (by decide)) (pa_cons (pv 2) (pa_cons pe_int (pa_cons pe_int pa_nil)))))))))
        (pss_one (ps_ret (pe_lst (pa_cons (pe_gi T.i_ODD) pa_nil))))
        pss_nil)
      (pss_cons (ps_set (i := 3) sc_House_listed.nd rfl (Or.inl rfl) (pe_lst (pa_cons (pe_callB call_lenD (by rfl) T.f_len PySem.boot_len (pa_cons (kfld (K := K) rfl (pv 0) rfl) pa_nil)) pa_nil)))
      (pss_cons (ps_for PassesOwn.never rfl (kpi (K := K) rfl (pe_slice sl_list (pe_callB (cr_sortedDI rfl) (by rfl) T.f_sorted (by decide +kernel) (pa_cons (kfld (K := K) rfl (pv 0) rfl) pa_nil)) (po_some (pv 1)) (po_some (pe_op op_add (pv 1) (pv 2))))) (pg_name (i := 4) sc_House_listed.nd rfl (Or.inl rfl))
        (pss_cons (ps_set (i := 5) sc_House_listed.nd rfl (Or.inl rfl) (pe_dget (hu_of hr) (kfld (K := K) rfl (pv 0) rfl) (pv 4) (fun _ _ => rfl)))
      (pss_one (ps_expr (pe_bm PySem.F.plainAttrs_list PySem.F.slot_list_extend PySem.F.type_list_extend mt_extend (pv 3) (pa_cons (pe_lst (pa_cons (kfld (K := K) rfl (pv 5) rfl) (pa_cons (kfld (K := K) rfl (pv 5) rfl) (pa_cons (pmt0 (K := K) rfl (pv 5) T.c_Piece T.m_Piece_state (ok_Piece_state T) (hr.mono (by decide))) pa_nil)))) pa_nil))))))
      (pss_one (ps_ret (pv 3)))))), ?_⟩
    unfold MHouse.listed at hm
    refine ⟨_, rfl, _, _, rfl, rfl, _, rfl, ?_⟩
    by_cases q1 : low < 0
    · rw [if_pos (.inl q1)] at hm
      cases hm
      exact iteYd q1 (iteY rfl ⟨(by show 1 ≤ sizeLine; decide), fun q hq => k _ q (hO.new hq)⟩)
    refine iteNd q1 ⟨_, rfl, most, 0, 1024, rfl, _, rfl, ?_⟩
    by_cases q2 : isFrom most 0 1024 = true
    case neg =>
      have q2 : isFrom most 0 1024 = false := by simpa using q2
      rw [if_pos (.inr q2)] at hm
      cases hm
      rw [q2]
      exact iteY rfl ⟨(by show 1 ≤ sizeLine; decide), fun q hq => k _ q (hO.new hq)⟩
    rw [if_neg (by rw [q2]; simp [q1])] at hm
    rw [q2]
    refine iteN rfl ?_
    obtain ⟨h0, h4⟩ : 0 ≤ most ∧ most ≤ 1024 := by
      unfold isFrom at q2
      simpa using q2
    obtain ⟨ys, hy, rfl⟩ := Option.map_eq_some_iff.mp hm
    have g := hO
    unfold houseC at g
    -- answer = [len(self.pieces)]
    refine ⟨_, rfl, _, _, _, _, _, rfl, g.rd a, T.c_House, T.n_House_pieces, lkz ix_House_pieces _, L.pd, _, rfl, g.rd L.pd, (by show 1 ≤ sizeLine; decide), fun r hr0 => ?_⟩
    have g1 := hO.new hr0 (o := .lst [.int ((dk (gP L) h.pieces).length : Int)])
    rw [dk_length] at g1 ⊢
    have g1' := g1
    unfold houseC at g1'
    obtain ⟨ln, rfl⟩ : ∃ n : Nat, low = (n : Int) := ⟨low.toNat, by omega⟩
    obtain ⟨mn, rfl⟩ : ∃ n : Nat, most = (n : Int) := ⟨most.toNat, by omega⟩
    rw [Int.toNat_natCast, Int.toNat_natCast] at hy
    refine ⟨_, rfl, _, _, _, _, _, rfl, g1'.rd a, T.c_House, T.n_House_pieces, lkz ix_House_pieces _, L.pd, _, h.pieces.map (·.1), rfl, .inl (g1'.rd L.pd), keys_dk, fun ys2 q hp hs hq => ?_⟩
    obtain rfl := isort_of hp hs
    have g2 := g1.new hq (o := .lst ((isort (h.pieces.map (·.1))).map V.int))
    refine ⟨_, rfl, _, rfl, _, rfl, _, rfl, _, _, rfl, rfl, _, rfl, q, _, rfl, SqL.of g2.get, fun t ht => ?_⟩
    have g3 := g2.new ht (o := .lst (cutV ((isort (h.pieces.map (·.1))).map V.int) (some (ln : Int)) (some ((ln : Int) + (mn : Int)))))
    have ec : cutV ((isort (h.pieces.map (·.1))).map V.int) (some (ln : Int)) (some ((ln : Int) + (mn : Int))) = (((isort (h.pieces.map (·.1))).drop ln).take mn).map V.int := by
      have e := cut2 (isort (h.pieces.map (·.1))) ln (ln + mn) (by omega)
      rw [show ln + mn - ln = mn by omega, Int.natCast_add] at e
      exact e
    rw [ec] at g3 ⊢
    generalize hks : ((isort (h.pieces.map (·.1))).drop ln).take mn = ks at g3 hy ⊢
    have hkl : ks.length ≤ 1024 := by
      rw [← hks, List.length_take]
      omega
    refine ⟨t, rfl, ⟨_, SqL.of g3.get⟩, for_list (K := K) (a := t) (xs := ks.map V.int) (fun i σ H' => ∃ (zs us : List Int) (v1 v2 : Option V), σ = [some (.ref a), some (.int (ln : Int)), some (.int (mn : Int)), some (.ref r), v1, v2] ∧
      Owns H' (cel r (.lst (((h.pieces.length : Int) :: zs).map V.int)) + (houseC K a L h + (cel t (.lst (ks.map V.int)) + (cel q (.lst ((isort (h.pieces.map (·.1))).map V.int)) + F)))) ∧ zs ++ us = ys ∧ zs.length = 3 * i ∧ i ≤ ks.length ∧ listL h.pieces (ks.drop i) = some us)
      ⟨[], ys, none, none, rfl, g3.to (by
        show _ = cel r (.lst [.int (h.pieces.length : Int)]) + _
        ac_rfl), rfl, rfl, Nat.zero_le _, hy⟩ (fun i σ H' _ h => ?_) ?_ ?_⟩
    · obtain ⟨_, _, _, _, _, h, _⟩ := h
      exact SqL.of (h.rd t)
    · rintro i y σ H' hi ⟨zs, us, v1, v2, rfl, g4, hzu, hzl, hik, ht4⟩
      obtain ⟨n, hn, rfl⟩ := get_ints hi
      obtain ⟨q3, q4⟩ := List.getElem?_eq_some_iff.mp hn
      rw [List.drop_eq_getElem_cons q3, q4] at ht4
      obtain ⟨p, hp1, ht4⟩ := Option.bind_eq_some_iff.mp ht4
      obtain ⟨us2, hus2, rfl⟩ := Option.map_eq_some_iff.mp ht4
      have g4' := g4.r
      rw [houseD_eq] at g4'
      have rp := (pread' ok g4' hp1).1
      unfold houseD at g4'
      refine ⟨_, rfl, _, _, _, _, _, rfl, g4'.rd a, T.c_House, T.n_House_pieces, lkz ix_House_pieces _, _, rfl, L.pd, _, rfl, dget (g := gP L) (g4'.rd L.pd) hp1, ?_⟩
      refine ⟨_, rfl, .inl ⟨rfl, _, SqL.of g4.get⟩, _, rfl, _, _, _, _, _, rfl, rp, T.c_Piece, T.n_Piece_place, lkz ix_Piece_place _, _, rfl, _, _, _, _, _, rfl, rp, T.c_Piece, T.n_Piece_size, lkz ix_Piece_size _, _, rfl, _, _, _, rfl, rp, lkn nx_Piece_state _, L.pl n, p, rfl, rp, (by show 3 ≤ sizeLine; decide), fun u hu => ?_⟩
      have g5 := g4.new hu (o := .lst [.int p.place, .int p.size, .int p.state])
      refine ⟨r, u, _, _, rfl, rfl, g5.rd r, g5.get, ?_, ?_⟩
      · rw [List.length_map, List.length_cons, hzl]
        exact le_lim (Nat.le_trans (show 3 * i + 1 + 3 ≤ 10000 by omega) (by decide))
      have g6 := g5.up r (.lst (((h.pieces.length : Int) :: zs).map V.int ++ [.int p.place, .int p.size, .int p.state]))
      refine ⟨zs ++ [p.place, p.size, p.state], us2, _, _, rfl, g6.sub (e := cel u (.lst [.int p.place, .int p.size, .int p.state])) ?_, by rw [List.append_assoc]; exact hzu, by rw [List.length_append, hzl]; show 3 * i + 3 = _; omega, q3, hus2⟩
      have e : ((h.pieces.length : Int) :: (zs ++ [p.place, p.size, p.state])).map V.int = ((h.pieces.length : Int) :: zs).map V.int ++ [.int p.place, .int p.size, .int p.state] := by
        rw [← List.cons_append, List.map_append]
        rfl
      rw [e]
      ac_rfl
    · rintro σ H' ⟨zs, us, v1, v2, rfl, g4, hzu, hzl, hik, ht4⟩
      rw [List.length_map, List.drop_length] at ht4
      cases ht4
      rw [List.append_nil] at hzu
      subst hzu
      exact ⟨_, rfl, k _ r (g4.sub (e := cel t (.lst (ks.map V.int)) + cel q (.lst ((isort (h.pieces.map (·.1))).map V.int))) (by ac_rfl))⟩
def sp_House_sums (K : PySem.W.Frag) : Sp := fun vs H Q _ => ∃ (a : Addr) (L : HLay) (h : MHouse) (xs : List Int) (c F : Cells), vs = [.ref a] ∧ HouseL K a L h c ∧ Owns H (c + F) ∧ h.sums = some xs ∧ xs.length ≤ LIM ∧
  ∀ H' q, Owns H' (cel q (.lst (xs.map V.int)) + (c + F)) → Q (.ref q) H'
theorem sc_House_sums : FnScope ["self", "some", "sizes", "answer", "piece"] ["self"] (defScope s_House_sums) := ⟨rfl, rfl, rfl, by decide +kernel, rfl, by decide +kernel, by decide +kernel⟩
theorem ok_House_sums (T : Env K mg) : DOk P w K mg base 5 ("House", some "sums") ["self"] (sp_House_sums K) := by
  obtain ⟨fd, F⟩ := T.d_House_sums
  refine ⟨fd, F.ok sc_House_sums (fun vs H Q E h => ?_) (fun cdv A outer s H vs Q E hr h => ?_), F.bindsN fun _ _ _ _ _ _ us hl => match us, hl with | [_], _ => rfl, F.kp⟩
  · obtain ⟨a, L, h, xs, c, F, rfl, ⟨ok, BL, cb, hB, rfl⟩, hO, hm, hx, k⟩ := h
    rfl
  · obtain ⟨a, L, h, xs, c, F, rfl, ⟨ok, BL, cb, hB, rfl⟩, hO, hm, hx, k⟩ := h
    refine ⟨_, PSs.nox (pss_cons (ps_set (i := 1) sc_House_sums.nd rfl (Or.inl rfl) (pmt0 (K := K) rfl (pv 0) T.c_House T.m_House_living (ok_House_living T) (hr.mono (by decide))))
      (pss_cons (ps_set (i := 2) sc_House_sums.nd rfl (Or.inl rfl) (pe_callB (cr_sum rfl) (by rfl) T.f_sum (by decide +kernel) (pa_cons (pe_lc (own := [("piece", 4)]) (g := gName 4) rfl sc_House_sums.nd (kpi (K := K) rfl (pv 1)) (blkOk_by (own := [("piece", 4)]) (N := ["self", "some", "sizes", "answer", "piece"]) (sc := defScope s_House_sums) (by decide +kernel)) (fun _ _ _ _ _ => pg_name (i := 4) sc_House_sums.nd rfl (Or.inl rfl)) (fun _ _ _ _ _ => pts_nil) (fun _ _ _ _ _ => (kfld (K := K) rfl (pv 4) rfl))) pa_nil)))
      (pss_cons (ps_set (i := 3) sc_House_sums.nd rfl (Or.inl rfl) (pe_lst (pa_cons pe_int (pa_cons (pe_callB call_len_seq (by rfl) T.f_len PySem.boot_len (pa_cons (pv 1) pa_nil)) (pa_cons (pv 2) (pa_cons (pe_callB call_len_seq (by rfl) T.f_len PySem.boot_len (pa_cons (kfld (K := K) rfl (pv 0) rfl) pa_nil)) (pa_cons (pmt0 (K := K) rfl (pv 0) T.c_House T.m_House_held_sizes (ok_House_held_sizes T) (hr.mono (by decide))) pa_nil)))))))
      (pss_one (ps_ret (pe_op op_cat (pe_op op_cat (pv 3) (pe_slice sl_list (kfld (K := K) rfl (pv 0) rfl) (po_some pe_int) po_none)) (pmt0 (K := K) rfl (kfld (K := K) rfl (pv 0) rfl) T.c_Blocks T.m_Blocks_sums (ok_Blocks_sums T) (hr.mono (by decide))))))))), ?_⟩
    obtain ⟨ss, hss, hm⟩ := Option.bind_eq_some_iff.mp hm
    obtain ⟨hs, hhs, hm⟩ := Option.bind_eq_some_iff.mp hm
    obtain ⟨bs, hbs, hm⟩ := Option.bind_eq_some_iff.mp hm
    cases hm
    have g := hO
    unfold houseC at g
    refine ⟨_, rfl, _, _, _, rfl, g.rd a, lkn nx_House_living _, a, L, h, cb + F, rfl, ok, hO.to (cells_assoc _ _ _), fun H1 q g1 => ?_⟩
    obtain ⟨es, as⟩ := sizesOf_all hss
    have hw := livingOf_length h.pieces
    -- sizes = sum([piece.size for piece in some])
    refine ⟨_, rfl, q, rfl, ⟨_, SqL.of g1.get⟩, fun D hD => lcA (livingOf h.pieces) (fun n => V.ref (L.pl n).a) (walk_list (K := K) (a := q) (xs := (livingOf h.pieces).map fun n => V.ref (L.pl n).a)) (List.length_map _).symm (fun i H x H' hi yy => ⟨yy.1, by
        have y2 := yy.2
        rw [List.getElem?_map] at y2
        obtain ⟨n, hn, e⟩ := Option.map_eq_some_iff.mp y2
        exact ⟨n, hn, e.symm⟩⟩) g1 (fun H g => SqL.of g.get) (fun _ => true) (fun n => V.int (((look h.pieces n).map MPiece.size).getD 0)) hD (by rw [List.length_map]; exact Nat.le_trans hw ok.lp) (fun _ => rfl) (fun _ _ _ _ Q q => q) (fun n hn _ H g Q q => ?_) (fun H g => ?_)⟩
    · obtain ⟨p, hp⟩ := as n hn
      have g2 := g.r
      rw [houseD_eq] at g2
      have rp := (pread' ok g2 hp).1
      rw [hp] at q
      exact ⟨_, rfl, _, _, _, _, _, rfl, rp, T.c_Piece, T.n_Piece_size, lkz ix_Piece_size _, q⟩
    rw [List.filter_eq_self.mpr (fun _ _ => rfl)] at g
    have e : List.map (fun n => V.int (((look h.pieces n).map MPiece.size).getD 0)) (livingOf h.pieces) = ss.map V.int := by
      rw [es, List.map_map]
      rfl
    rw [e] at g
    refine ⟨D, ss, rfl, SqL.of g.get, ?_⟩
    have g' := g
    unfold houseC at g'
    refine ⟨_, rfl, _, _, rfl, .inl (SqL.of (g.rd q)), _, rfl, _, rfl, _, _, _, _, _, rfl, g'.rd a, T.c_House, T.n_House_waiting, lkz ix_House_waiting _, _, _, rfl, .inl (SqL.of (g'.rd L.wt)), ?_⟩
    refine ⟨_, rfl, _, _, _, rfl, g'.rd a, lkn nx_House_held_sizes _, a, L, h, hs, cel D (.lst (ss.map V.int)) + (cel q (.lst ((livingOf h.pieces).map fun n => V.ref (L.pl n).a)) + (cb + F)), rfl, ok, g.to (by ac_rfl), hhs, fun H3 g3 => ?_⟩
    rw [List.length_map, List.length_map]
    have hxl : 5 + (h.kinds.drop 1).length + bs.length ≤ LIM := by
      rw [List.length_append, List.length_append] at hx
      exact hx
    have hcd : ([0, ((livingOf h.pieces).length : Int), ss.sum, (h.waiting.length : Int), hs] ++ List.drop 1 h.kinds).length = 5 + (h.kinds.drop 1).length := by
      rw [List.length_append]
      rfl
    -- answer + self.told_kinds[1:] + self.blocks.sums()
    refine ⟨(by show 5 ≤ sizeLine; decide), fun u hu => ?_⟩
    have g4 := g3.new hu (o := .lst ([0, ((livingOf h.pieces).length : Int), ss.sum, (h.waiting.length : Int), hs].map V.int))
    have g4' := g4
    unfold houseC at g4'
    refine ⟨_, rfl, _, rfl, _, _, _, _, _, rfl, g4'.rd a, T.c_House, T.n_House_told_kinds, lkz ix_House_told_kinds _, _, rfl, L.kd, _, rfl, SqL.of (g4'.rd L.kd), fun v hv => ?_⟩
    rw [cut1, ← List.map_drop]
    have g5 := g4.new hv (o := .lst ((h.kinds.drop 1).map V.int))
    refine ⟨u, v, _, _, rfl, rfl, g5.rd u, g5.get, by
      rw [List.length_map, List.length_map]
      exact le_lim (Nat.le_trans (show 5 + (h.kinds.drop 1).length ≤ _ from Nat.le_add_right _ _) hxl), fun w0 hw0 => ?_⟩
    have g6 := g5.new hw0 (o := .lst ([0, ((livingOf h.pieces).length : Int), ss.sum, (h.waiting.length : Int), hs].map V.int ++ (h.kinds.drop 1).map V.int))
    rw [← List.map_append] at g6 ⊢
    have g6' := g6
    unfold houseC at g6'
    obtain ⟨okB, cp, hP, ecb⟩ := id hB
    have g6b := g6'
    rw [ecb] at g6b
    unfold blocksC at g6b
    refine ⟨_, rfl, _, _, _, _, _, rfl, g6'.rd a, T.c_House, T.n_House_blocks, lkz ix_House_blocks _, _, _, _, rfl, g6b.rd L.bl, lkn nx_Blocks_sums _, L.bl, BL, h.bl, bs, cb, cel w0 (.lst (([0, ((livingOf h.pieces).length : Int), ss.sum, (h.waiting.length : Int), hs] ++ h.kinds.drop 1).map V.int)) + (cel v (.lst ((h.kinds.drop 1).map V.int)) + (cel u (.lst ([0, ((livingOf h.pieces).length : Int), ss.sum, (h.waiting.length : Int), hs].map V.int)) + (houseC K a L h + (cel D (.lst (ss.map V.int)) + (cel q (.lst ((livingOf h.pieces).map fun n => V.ref (L.pl n).a)) + F))))), rfl, hB, g6.to (by ac_rfl), hbs, fun H7 x g7 => ?_⟩
    refine ⟨w0, x, _, _, rfl, rfl, g7.rd w0, g7.get, by
      rw [List.length_map, List.length_map, hcd]
      exact le_lim hxl, fun y hy => ?_⟩
    have g8 := g7.new hy (o := .lst (([0, ((livingOf h.pieces).length : Int), ss.sum, (h.waiting.length : Int), hs] ++ h.kinds.drop 1).map V.int ++ bs.map V.int))
    rw [← List.map_append] at g8 ⊢
    exact k _ y (g8.sub (e := cel x (.lst (bs.map V.int)) + (cel w0 (.lst (([0, ((livingOf h.pieces).length : Int), ss.sum, (h.waiting.length : Int), hs] ++ h.kinds.drop 1).map V.int)) + (cel v (.lst ((h.kinds.drop 1).map V.int)) + (cel u (.lst ([0, ((livingOf h.pieces).length : Int), ss.sum, (h.waiting.length : Int), hs].map V.int)) + (cel D (.lst (ss.map V.int)) + cel q (.lst ((livingOf h.pieces).map fun n => V.ref (L.pl n).a))))))) (by ac_rfl))
end
end GK
end
section
set_option Elab.async false
set_option linter.all false
set_option maxRecDepth 100000
set_option maxHeartbeats 4000000
namespace GK
open PySem PySem.Spec PyProof.Rows L2
theorem num_at {n : List Int} {i : Nat} (h : i < n.length) : n[i]? = some (n.getD i 0) := by
  rw [List.getD_eq_getElem?_getD, List.getElem?_eq_getElem h]
  rfl
section
variable {P : Program} {w : World} {K : PySem.W.Frag} {mg : Str → Option Value} {base : Heap}
def sp_changing (K : PySem.W.Frag) : Sp := fun vs H Q _ => ∃ (a b r : Addr) (L : HLay) (h h' : MHouse) (A A' : MAsks) (call : Int) (n xs : List Int) (c d F : Cells), vs = [.ref a, .int call, .ref r, .ref b] ∧ n.length = countsT.getD call.toNat 0 ∧ HouseL K a L h c ∧ AsksAt K b A d ∧ Owns H (c + (d + (cel r (.lst (n.map V.int)) + F))) ∧ h.changing A call n = some (A', h', xs) ∧
  ∀ H' L' c' d' q, HouseL K a L' h' c' → AsksAt K b A' d' → Owns H' (cel q (.lst (xs.map V.int)) + (c' + (d' + (cel r (.lst (n.map V.int)) + F)))) → Q (.ref q) H'
theorem sc_changing : FnScope ["house", "call", "numbers", "asks"] ["house", "call", "numbers", "asks"] (defScope s_changing) := ⟨rfl, rfl, rfl, by decide +kernel, rfl, by decide +kernel, by decide +kernel⟩
theorem ok_changing (T : Env K mg) : DOk P w K mg base 11 ("changing", none) ["house", "call", "numbers", "asks"] (sp_changing K) := by
  obtain ⟨fd, F⟩ := T.d_changing
  refine ⟨fd, F.ok sc_changing (fun vs H Q E h => ?_) (fun cdv A outer s H vs Q E hr h => ?_), F.bindsN fun _ _ _ _ _ _ us hl => match us, hl with | [_, _, _, _], _ => rfl, F.kp⟩
  · obtain ⟨a, b, r, L, h, h', A0, A', call, n, xs, c, d, F, rfl, hn, hH, hA, hO, hm, k⟩ := h
    rfl
  · obtain ⟨a, b, r, L, h, h', A0, A', call, n, xs, c, d, F, rfl, hn, hH, hA, hO, hm, k⟩ := h
    refine ⟨_, PSs.nox (pss_cons (ps_if (pt_cmpR op_eq (pv 1) pe_int (nomark _))
        (pss_one (ps_ret (pmt (K := K) rfl (pv 0) T.c_House T.m_House_take (ok_House_take T) (hr.mono (by decide)) (pa_cons (pv 3) (pa_cons (pe_ix (kix (K := K) rfl) (pv 2) pe_int (fun _ _ => rfl)) (pa_cons (pe_ix (kix (K := K) rfl) (pv 2) pe_int (fun _ _ => rfl)) (pa_cons (pe_ix (kix (K := K) rfl) (pv 2) pe_int (fun _ _ => rfl)) pa_nil)))))))
        pss_nil)
      (pss_cons (ps_if (pt_cmpR op_eq (pv 1) pe_int (nomark _))
        (pss_one (ps_ret (pmt (K := K) rfl (pv 0) T.c_House T.m_House_give (ok_House_give T) (hr.mono (by decide)) (pa_cons (pv 3) (pa_cons (pe_ix (kix (K := K) rfl) (pv 2) pe_int (fun _ _ => rfl)) (pa_cons (pe_ix (kix (K := K) rfl) (pv 2) pe_int (fun _ _ => rfl)) pa_nil))))))
        pss_nil)
      (pss_cons (ps_if (pt_cmpR op_eq (pv 1) pe_int (nomark _))
        (pss_one (ps_ret (pmt (K := K) rfl (pv 0) T.c_House T.m_House_resize (ok_House_resize T) (hr.mono (by decide)) (pa_cons (pv 3) (pa_cons (pe_ix (kix (K := K) rfl) (pv 2) pe_int (fun _ _ => rfl)) (pa_cons (pe_ix (kix (K := K) rfl) (pv 2) pe_int (fun _ _ => rfl)) (pa_cons (pe_ix (kix (K := K) rfl) (pv 2) pe_int (fun _ _ => rfl)) pa_nil)))))))
        pss_nil)
      (pss_cons (ps_if (pt_cmpR op_eq (pv 1) pe_int (nomark _))
        (pss_one (ps_ret (pmt (K := K) rfl (pv 0) T.c_House T.m_House_look (ok_House_look T) (hr.mono (by decide)) (pa_cons (pv 3) pa_nil))))
        pss_nil)
      (pss_cons (ps_if (pt_cmpR op_eq (pv 1) pe_int (nomark _))
        (pss_one (ps_ret (pmt (K := K) rfl (pv 0) T.c_House T.m_House_let (ok_House_let T) (hr.mono (by decide)) (pa_cons (pv 3) pa_nil))))
        pss_nil)
      (pss_one (ps_ret (pmt (K := K) rfl (pv 0) T.c_House T.m_House_left (ok_House_left T) (hr.mono (by decide)) (pa_cons (pv 3) pa_nil))))))))), ?_⟩
    unfold MHouse.changing at hm
    obtain ⟨ok, BL, cb, hB, rfl⟩ := id hH
    have g := hO
    unfold houseC at g
    refine ⟨_, rfl, rfl, _, rfl, ?_⟩
    rw [dec_int]
    by_cases q1 : call = 1
    · rw [if_pos q1] at hm
      subst q1
      have hn : n.length = 3 := hn
      exact iteYd rfl ⟨_, rfl, _, _, _, rfl, g.rd a, lkn nx_House_take _, _, rfl, _, rfl, r, _, _, _, rfl, rfl, SqL.of (g.rd r), at_int (j := 0) rfl (num_at (by omega)), _, rfl, r, _, _, _, rfl, rfl, SqL.of (g.rd r), at_int (j := 1) rfl (num_at (by omega)), _, rfl, r, _, _, _, rfl, rfl, SqL.of (g.rd r), at_int (j := 2) rfl (num_at (by omega)), a, b, L, h, h', A0, A', _, _, _, xs, _, d, _, rfl, hH, hA, hO, hm, k⟩
    rw [if_neg q1] at hm
    refine iteNd q1 ⟨_, rfl, rfl, _, rfl, ?_⟩
    rw [dec_int]
    by_cases q2 : call = 2
    · rw [if_pos q2] at hm
      subst q2
      have hn : n.length = 2 := hn
      exact iteYd rfl ⟨_, rfl, _, _, _, rfl, g.rd a, lkn nx_House_give _, _, rfl, _, rfl, r, _, _, _, rfl, rfl, SqL.of (g.rd r), at_int (j := 0) rfl (num_at (by omega)), _, rfl, r, _, _, _, rfl, rfl, SqL.of (g.rd r), at_int (j := 1) rfl (num_at (by omega)), a, b, L, h, h', A0, A', _, _, xs, _, d, _, rfl, hH, hA, hO, hm, k⟩
    rw [if_neg q2] at hm
    refine iteNd q2 ⟨_, rfl, rfl, _, rfl, ?_⟩
    rw [dec_int]
    by_cases q3 : call = 3
    · rw [if_pos q3] at hm
      subst q3
      have hn : n.length = 3 := hn
      exact iteYd rfl ⟨_, rfl, _, _, _, rfl, g.rd a, lkn nx_House_resize _, _, rfl, _, rfl, r, _, _, _, rfl, rfl, SqL.of (g.rd r), at_int (j := 0) rfl (num_at (by omega)), _, rfl, r, _, _, _, rfl, rfl, SqL.of (g.rd r), at_int (j := 1) rfl (num_at (by omega)), _, rfl, r, _, _, _, rfl, rfl, SqL.of (g.rd r), at_int (j := 2) rfl (num_at (by omega)), a, b, L, h, h', A0, A', _, _, _, xs, _, d, _, rfl, hH, hA, hO, hm, k⟩
    rw [if_neg q3] at hm
    refine iteNd q3 ⟨_, rfl, rfl, _, rfl, ?_⟩
    rw [dec_int]
    by_cases q6 : call = 6
    · rw [if_pos q6] at hm
      exact iteYd q6 ⟨_, rfl, _, _, _, rfl, g.rd a, lkn nx_House_look _, _, rfl, a, b, L, h, h', A0, A', xs, _, d, _, rfl, hH, hA, hO, hm, k⟩
    rw [if_neg q6] at hm
    refine iteNd q6 ⟨_, rfl, rfl, _, rfl, ?_⟩
    rw [dec_int]
    by_cases q7 : call = 7
    · rw [if_pos q7] at hm
      exact iteYd q7 ⟨_, rfl, _, _, _, rfl, g.rd a, lkn nx_House_let _, _, rfl, a, b, L, h, h', A0, A', xs, _, d, _, rfl, hH, hA, hO, hm, k⟩
    rw [if_neg q7] at hm
    exact iteNd q7 ⟨_, rfl, _, _, _, rfl, g.rd a, lkn nx_House_left _, _, rfl, a, b, L, h, h', A0, A', xs, _, d, _, rfl, hH, hA, hO, hm, k⟩
def sp_plain (K : PySem.W.Frag) : Sp := fun vs H Q _ => ∃ (a r s : Addr) (L : HLay) (h h' : MHouse) (call : Int) (n row xs : List Int) (c F : Cells), vs = [.ref a, .int call, .ref r, .ref s] ∧ (call = 4 ∨ call = 5 ∨ call = 9 ∨ call = 10 ∨ call = 11 ∨ call = 12) ∧ n.length = countsT.getD call.toNat 0 ∧ HouseL K a L h c ∧ Owns H (c + (cel s (.lst (row.map V.int)) + (cel r (.lst (n.map V.int)) + F))) ∧ h.plain call n row = some (h', xs) ∧ xs.length ≤ LIM ∧
  ∀ H' L' c' q, HouseL K a L' h' c' → Owns H' (cel q (.lst (xs.map V.int)) + (c' + (cel s (.lst (row.map V.int)) + (cel r (.lst (n.map V.int)) + F)))) → Q (.ref q) H'
theorem sc_plain : FnScope ["house", "call", "numbers", "row"] ["house", "call", "numbers", "row"] (defScope s_plain) := ⟨rfl, rfl, rfl, by decide +kernel, rfl, by decide +kernel, by decide +kernel⟩
theorem ok_plain (T : Env K mg) : DOk P w K mg base 6 ("plain", none) ["house", "call", "numbers", "row"] (sp_plain K) := by
  obtain ⟨fd, F⟩ := T.d_plain
  refine ⟨fd, F.ok sc_plain (fun vs H Q E h => ?_) (fun cdv A outer s H vs Q E hr h => ?_), F.bindsN fun _ _ _ _ _ _ us hl => match us, hl with | [_, _, _, _], _ => rfl, F.kp⟩
  · obtain ⟨a, r, s, L, h, h', call, n, row, xs, c, F, rfl, hcall, hn, hH, hO, hm, hx, k⟩ := h
    rfl
  · obtain ⟨a, r, s, L, h, h', call, n, row, xs, c, F, rfl, hcall, hn, hH, hO, hm, hx, k⟩ := h
    refine ⟨_, PSs.nox (pss_cons (ps_if (pt_cmpR op_eq (pv 1) pe_int (nomark _))
        (pss_one (ps_ret (pmt (K := K) rfl (pv 0) T.c_House T.m_House_write (ok_House_write T) (hr.mono (by decide)) (pa_cons (pe_ix (kix (K := K) rfl) (pv 2) pe_int (fun _ _ => rfl)) (pa_cons (pv 3) pa_nil)))))
        pss_nil)
      (pss_cons (ps_if (pt_cmpR op_eq (pv 1) pe_int (nomark _))
        (pss_one (ps_ret (pmt (K := K) rfl (pv 0) T.c_House T.m_House_read (ok_House_read T) (hr.mono (by decide)) (pa_cons (pe_ix (kix (K := K) rfl) (pv 2) pe_int (fun _ _ => rfl)) (pa_cons (pe_ix (kix (K := K) rfl) (pv 2) pe_int (fun _ _ => rfl)) pa_nil)))))
        pss_nil)
      (pss_cons (ps_if (pt_cmpR op_eq (pv 1) pe_int (nomark _))
        (pss_one (ps_ret (pmt (K := K) rfl (pv 0) T.c_House T.m_House_told (ok_House_told T) (hr.mono (by decide)) (pa_cons (pe_ix (kix (K := K) rfl) (pv 2) pe_int (fun _ _ => rfl)) pa_nil))))
        pss_nil)
      (pss_cons (ps_if (pt_cmpR op_eq (pv 1) pe_int (nomark _))
        (pss_one (ps_ret (pmt (K := K) rfl (pv 0) T.c_House T.m_House_whose (ok_House_whose T) (hr.mono (by decide)) (pa_cons (pe_ix (kix (K := K) rfl) (pv 2) pe_int (fun _ _ => rfl)) pa_nil))))
        pss_nil)
      (pss_cons (ps_if (pt_cmpR op_eq (pv 1) pe_int (nomark _))
        (pss_one (ps_ret (pmt (K := K) rfl (pv 0) T.c_House T.m_House_listed (ok_House_listed T) (hr.mono (by decide)) (pa_cons (pe_ix (kix (K := K) rfl) (pv 2) pe_int (fun _ _ => rfl)) (pa_cons (pe_ix (kix (K := K) rfl) (pv 2) pe_int (fun _ _ => rfl)) pa_nil)))))
        pss_nil)
      (pss_one (ps_ret (pmt0 (K := K) rfl (pv 0) T.c_House T.m_House_sums (ok_House_sums T) (hr.mono (by decide)))))))))), ?_⟩
    unfold MHouse.plain at hm
    obtain ⟨ok, BL, cb, hB, rfl⟩ := id hH
    have g := hO
    unfold houseC at g
    have hO2 := hO.to (cells_assoc _ _ _)
    refine ⟨_, rfl, rfl, _, rfl, ?_⟩
    rw [dec_int]
    by_cases q1 : call = 4
    · rw [if_pos q1] at hm
      subst q1
      have hn : n.length = 1 := hn
      exact iteYd rfl ⟨_, rfl, _, _, _, rfl, g.rd a, lkn nx_House_write _, _, rfl, r, _, _, _, rfl, rfl, SqL.of (g.rd r), at_int (j := 0) rfl (num_at (by omega)), _, rfl, a, s, L, h, h', _, row, xs, _, _, rfl, hH, hO, hm, k⟩
    rw [if_neg q1] at hm
    refine iteNd q1 ⟨_, rfl, rfl, _, rfl, ?_⟩
    rw [dec_int]
    by_cases q2 : call = 5
    · rw [if_pos q2] at hm
      subst q2
      cases hm
      have hn : n.length = 2 := hn
      exact iteYd rfl ⟨_, rfl, _, _, _, rfl, g.rd a, lkn nx_House_read _, _, rfl, r, _, _, _, rfl, rfl, SqL.of (g.rd r), at_int (j := 0) rfl (num_at (by omega)), _, rfl, r, _, _, _, rfl, rfl, SqL.of (g.rd r), at_int (j := 1) rfl (num_at (by omega)), a, L, h, _, _, _, rfl, ok, hO2, fun H2 q g2 => k _ L _ q hH (g2.to (by ac_rfl))⟩
    rw [if_neg q2] at hm
    refine iteNd q2 ⟨_, rfl, rfl, _, rfl, ?_⟩
    rw [dec_int]
    by_cases q3 : call = 9
    · rw [if_pos q3] at hm
      subst q3
      cases hm
      have hn : n.length = 1 := hn
      exact iteYd rfl ⟨_, rfl, _, _, _, rfl, g.rd a, lkn nx_House_told _, _, rfl, r, _, _, _, rfl, rfl, SqL.of (g.rd r), at_int (j := 0) rfl (num_at (by omega)), a, L, h, _, _, rfl, ok, hO2, fun H2 q g2 => k _ L _ q hH (g2.to (by ac_rfl))⟩
    rw [if_neg q3] at hm
    refine iteNd q3 ⟨_, rfl, rfl, _, rfl, ?_⟩
    rw [dec_int]
    by_cases q4 : call = 10
    · rw [if_pos q4] at hm
      subst q4
      cases hm
      have hn : n.length = 1 := hn
      exact iteYd rfl ⟨_, rfl, _, _, _, rfl, g.rd a, lkn nx_House_whose _, _, rfl, r, _, _, _, rfl, rfl, SqL.of (g.rd r), at_int (j := 0) rfl (num_at (by omega)), a, L, h, _, _, rfl, ok, hO2, fun H2 q g2 => k _ L _ q hH (g2.to (by ac_rfl))⟩
    rw [if_neg q4] at hm
    refine iteNd q4 ⟨_, rfl, rfl, _, rfl, ?_⟩
    rw [dec_int]
    by_cases q5 : call = 11
    · rw [if_pos q5] at hm
      subst q5
      obtain ⟨ys, hy, hm⟩ := Option.map_eq_some_iff.mp hm
      cases hm
      have hn : n.length = 2 := hn
      exact iteYd rfl ⟨_, rfl, _, _, _, rfl, g.rd a, lkn nx_House_listed _, _, rfl, r, _, _, _, rfl, rfl, SqL.of (g.rd r), at_int (j := 0) rfl (num_at (by omega)), _, rfl, r, _, _, _, rfl, rfl, SqL.of (g.rd r), at_int (j := 1) rfl (num_at (by omega)), a, L, h, _, _, xs, _, rfl, ok, hO2, hy, fun H2 q g2 => k _ L _ q hH (g2.to (by ac_rfl))⟩
    rw [if_neg q5] at hm
    obtain ⟨ys, hy, hm⟩ := Option.map_eq_some_iff.mp hm
    cases hm
    exact iteNd q5 ⟨_, rfl, _, _, _, rfl, g.rd a, lkn nx_House_sums _, a, L, h, xs, _, _, rfl, hH, hO, hy, hx, fun H2 q g2 => k _ L _ q hH g2⟩
/-- a house, or none -/
def OptH (K : PySem.W.Frag) (v : V) (h : Option MHouse) (c : Cells) : Prop := match h with
  | none => v = .non ∧ c = nil
  | some x => ∃ a L, v = .ref a ∧ HouseL K a L x c
def sp_begun (K : PySem.W.Frag) : Sp := fun vs H Q _ => ∃ (v : V) (b r : Addr) (h h' : Option MHouse) (A A' : MAsks) (n xs : List Int) (c d F : Cells), vs = [v, .ref r, .ref b] ∧ OptH K v h c ∧ AsksAt K b A d ∧ Owns H (c + (d + (cel r (.lst (n.map V.int)) + F))) ∧ begun A h n = some (A', h', xs) ∧
  ∀ H' v' c' d' q p, OptH K v' h' c' → AsksAt K b A' d' → Owns H' (cel q (.tup [v', .ref p]) + (cel p (.lst (xs.map V.int)) + (c' + (d' + F)))) → Q (.ref q) H'
theorem sc_begun : FnScope ["house", "numbers", "asks", "size", "chunk", "spare", "guard", "hold"] ["house", "numbers", "asks"] (defScope s_begun) := ⟨rfl, rfl, rfl, by decide +kernel, rfl, by decide +kernel, by decide +kernel⟩
theorem ok_begun (T : Env K mg) : DOk P w K mg base 5 ("begun", none) ["house", "numbers", "asks"] (sp_begun K) := by
  obtain ⟨fd, F⟩ := T.d_begun
  refine ⟨fd, F.ok sc_begun (fun vs H Q E h => ?_) (fun cdv A outer s H vs Q E hr h => ?_), F.bindsN fun _ _ _ _ _ _ us hl => match us, hl with | [_, _, _], _ => rfl, F.kp⟩
  · obtain ⟨v, b, r, h, h', A0, A', n, xs, c, d, F, rfl, hH, hA, hO, hm, k⟩ := h
    rfl
  · obtain ⟨v, b, r, h, h', A0, A', n, xs, c, d, F, rfl, hH, hA, hO, hm, k⟩ := h
    refine ⟨_, PSs.nox (pss_cons (ps_asg (pv 1) (pg_unl rfl (pgs_cons (pg_name (i := 3) sc_begun.nd rfl (Or.inl rfl)) (pgs_cons (pg_name (i := 4) sc_begun.nd rfl (Or.inl rfl)) (pgs_cons (pg_name (i := 5) sc_begun.nd rfl (Or.inl rfl)) (pgs_cons (pg_name (i := 6) sc_begun.nd rfl (Or.inl rfl)) (pgs_cons (pg_name (i := 7) sc_begun.nd rfl (Or.inl rfl)) pgs_nil)))))))
      (pss_cons (ps_if (pt_not (pt_val (pcl (K := K) rfl T.g_is_begin (ok_is_begin T) (hr.mono (by decide)) (pa_cons (pv 3) (pa_cons (pv 4) (pa_cons (pv 5) (pa_cons (pv 6) (pa_cons (pv 7) pa_nil))))))))
        (pss_one (ps_ret (pe_tup (pa_cons (pv 0) (pa_cons (pe_lst (pa_cons (pe_gi T.i_ODD) pa_nil)) pa_nil)))))
        pss_nil)
      (pss_cons (ps_if (pt_cmpR op_notN (pv 0) pe_non (nomark _))
        (pss_one (ps_expr (pmt (K := K) rfl (kfld (K := K) rfl (kfld (K := K) rfl (pv 0) rfl) rfl) T.c_Pages T.m_Pages_give_back (ok_Pages_give_back T) (hr.mono (by decide)) (pa_cons (pv 2) pa_nil))))
        pss_nil)
      (pss_one (ps_ret (pe_tup (pa_cons (pmk (K := K) rfl T.k_House T.g_House (ok_House_init T) (hr.mono (by decide)) (pa_cons (pv 3) (pa_cons (pv 4) (pa_cons (pv 5) (pa_cons (pv 6) (pa_cons (pv 7) pa_nil)))))) (pa_cons (pe_lst (pa_cons pe_int pa_nil)) pa_nil)))))))), ?_⟩
    unfold begun at hm
    split at hm
    case h_2 => cases hm
    rename_i size chunk spare guard hold
    refine ⟨_, rfl, r, _, rfl, SqL.of (hO.rd r), rfl, _, _, rfl, _, _, rfl, _, _, rfl, _, _, rfl, _, _, rfl, rfl, ?_⟩
    have hO1 : Owns H (c + (d + F)) := hO.sub (e := cel r (.lst ([size, chunk, spare, guard, hold].map V.int))) (by ac_rfl)
    clear hO
    refine ⟨_, rfl, _, rfl, _, rfl, _, rfl, _, rfl, size, chunk, spare, guard, hold, rfl, _, rfl, ?_⟩
    by_cases q1 : isBegin size chunk spare guard hold = true
    case neg =>
      have q1 : isBegin size chunk spare guard hold = false := by simpa using q1
      rw [if_pos q1] at hm
      cases hm
      rw [q1]
      exact iteY rfl ⟨_, rfl, (by show 1 ≤ sizeLine; decide), fun p hp => ⟨(by show 2 ≤ sizeLine; decide), fun q hq => k _ v c d q p hH hA (((hO1.new hp).new hq).to (by rfl))⟩⟩
    rw [if_neg (by rw [q1]; decide)] at hm
    rw [q1]
    refine iteN rfl ?_
    have hs : 1 ≤ size ∧ size ≤ 16384 := by
      unfold isBegin isFrom at q1
      simp only [Bool.and_eq_true, decide_eq_true_eq] at q1
      exact q1.1
    obtain ⟨A1, hb, hm⟩ := Option.map_eq_some_iff.mp hm
    cases hm
    -- House(..)
    have fin : ∀ (H2 : Hp) (d2 : Cells), AsksAt K b A' d2 → Owns H2 (d2 + F) → (tRet (tTup (tCons (tMk (He.ga K "House") (sp_House_init K) (tCons (tVar 3) (tCons (tVar 4) (tCons (tVar 5) (tCons (tVar 6) (tCons (tVar 7) tNil)))))) (tCons (tLst (tCons (tC (.int 0)) tNil)) tNil))))
        { nx := fun x H' => Q V.non H', rt := Q } [some v, some (.ref r), some (.ref b), some (.int size), some (.int chunk), some (.int spare), some (.int guard), some (.int hold)] H2 := fun H2 d2 hA2 g2 => by
      refine ⟨_, rfl, _, rfl, _, rfl, _, rfl, _, rfl, fun x dx hx hdx ne => ?_⟩
      have g4 := g2.mk (u := .own x) (o := .ins (He.ga K "House") dx []) hx hdx ne
      refine ⟨x, dx, size, chunk, spare, guard, hold, _, rfl, by omega, by omega, g4, fun H5 L c5 hL g5 => ⟨rfl, ?_⟩⟩
      exact ⟨(by show 1 ≤ sizeLine; decide), fun p hp => ⟨(by show 2 ≤ sizeLine; decide), fun q hq => k _ (.ref x) c5 d2 q p ⟨x, L, rfl, hL⟩ hA2 ((g5.new hp).new hq)⟩⟩
    cases h with
    | none =>
      cases hb
      obtain ⟨rfl, rfl⟩ := hH
      exact ⟨_, rfl, rfl, _, rfl, iteN rfl (fin _ d hA (hO1.to (nil_add _)))⟩
    | some x =>
      obtain ⟨a, L, rfl, ok, BL, cb, ⟨okB, cp, hP, rfl⟩, rfl⟩ := hH
      refine ⟨_, rfl, rfl, _, rfl, iteY rfl ?_⟩
      have g := hO1
      unfold houseC blocksC at g
      obtain ⟨hz, dxp, mk, rn, ecp⟩ := id hP
      have gp := g
      rw [ecp] at gp
      refine ⟨_, rfl, _, _, _, _, _, rfl, g.rd a, T.c_House, T.n_House_blocks, lkz ix_House_blocks _, _, _, _, _, _, rfl, g.rd L.bl, T.c_Blocks, T.n_Blocks_pages, lkz ix_Blocks_pages _, _, _, _, rfl, gp.rd BL.pa, lkn nx_Pages_give_back _, _, rfl, BL.pa, b, x.bl.pg, A0, A', cp, d, houseC K a L x + (blocksC K L.bl BL x.bl + F), rfl, hP, hA, hO1.to (by ac_rfl), hb, fun H2 d2 hA2 g2 => ?_⟩
      exact fin _ d2 hA2 (g2.sub (e := cp + (houseC K a L x + blocksC K L.bl BL x.bl)) (by ac_rfl))
def sp_row_at (K : PySem.W.Frag) : Sp := fun vs H Q _ => ∃ (a : Addr) (calls row : List Int) (at_ to : Nat) (has : Bool) (F : Cells), vs = [.ref a, .int (at_ : Int), .bl has] ∧ SqL K H a (calls.map V.int) ∧ Owns H F ∧ rowAt calls at_ (if has = true then 1 else 0) = some (row, to) ∧
  ∀ H' q p, Owns H' (cel q (.tup [.ref p, .int (to : Int)]) + (cel p (.lst (row.map V.int)) + F)) → Q (.ref q) H'
theorem sc_row_at : FnScope ["calls", "at", "has_row", "end"] ["calls", "at", "has_row"] (defScope s_row_at) := ⟨rfl, rfl, rfl, by decide +kernel, rfl, by decide +kernel, by decide +kernel⟩
theorem ok_row_at (T : Env K mg) : DOk P w K mg base 1 ("row_at", none) ["calls", "at", "has_row"] (sp_row_at K) := by
  obtain ⟨fd, F⟩ := T.d_row_at
  refine ⟨fd, F.ok sc_row_at (fun vs H Q E h => ?_) (fun cdv A outer s H vs Q E hr h => ?_), F.bindsN fun _ _ _ _ _ _ us hl => match us, hl with | [_, _, _], _ => rfl, F.kp⟩
  · obtain ⟨a, calls, row, at_, to, has, F, rfl, hS, hO, hm, k⟩ := h
    rfl
  · obtain ⟨a, calls, row, at_, to, has, F, rfl, hS, hO, hm, k⟩ := h
    refine ⟨_, PSs.nox (pss_cons (ps_if (pt_not (pt_val (pv 2)))
        (pss_one (ps_ret (pe_tup (pa_cons (pe_lst pa_nil) (pa_cons (pv 1) pa_nil)))))
        pss_nil)
      (pss_cons (ps_set (i := 3) sc_row_at.nd rfl (Or.inl rfl) (pe_op op_add (pe_op op_add (pv 1) pe_int) (pe_ix (kix (K := K) rfl) (pv 0) (pv 1) (fun _ _ => rfl))))
      (pss_one (ps_ret (pe_tup (pa_cons (pe_slice sl_list (pv 0) (po_some (pe_op op_add (pv 1) pe_int)) (po_some (pv 3))) (pa_cons (pv 3) pa_nil))))))), ?_⟩
    unfold rowAt at hm
    refine ⟨_, rfl, _, rfl, ?_⟩
    cases has with
    | false =>
      rw [if_neg (by decide)] at hm
      cases hm
      refine iteY rfl ⟨Nat.zero_le _, fun p hp => ⟨_, rfl, (by show 2 ≤ sizeLine; decide), fun q hq => ?_⟩⟩
      exact k _ q p ((hO.new hp (o := .lst [])).new hq)
    | true =>
      rw [if_pos (by decide)] at hm
      obtain ⟨z, hz, hm⟩ := Option.bind_eq_some_iff.mp hm
      split at hm
      case isFalse => cases hm
      rename_i h0
      cases hm
      refine iteN rfl ?_
      refine ⟨_, rfl, _, _, rfl, rfl, _, rfl, _, rfl, a, _, _, _, rfl, rfl, hS, at_int (j := at_) rfl hz, _, _, rfl, rfl, ?_⟩
      refine ⟨_, rfl, _, rfl, _, _, rfl, rfl, _, rfl, _, rfl, _, rfl, a, _, rfl, hS, fun p hp => ?_⟩
      have g1 := hO.new hp (o := .lst (cutV (calls.map V.int) (some ((at_ : Int) + 1)) (some ((at_ : Int) + 1 + z))))
      have ec : cutV (calls.map V.int) (some ((at_ : Int) + 1)) (some ((at_ : Int) + 1 + z)) = ((calls.drop (at_ + 1)).take z.toNat).map V.int := by
        have e := cut2 calls (at_ + 1) (at_ + 1 + z.toNat) (by omega)
        rw [show at_ + 1 + z.toNat - (at_ + 1) = z.toNat by omega, show ((at_ + 1 + z.toNat : Nat) : Int) = (at_ : Int) + 1 + z by omega] at e
        exact e
      rw [ec] at g1 ⊢
      refine ⟨_, rfl, (by show 2 ≤ sizeLine; decide), fun q hq => ?_⟩
      refine k _ q p ?_
      rw [show ((at_ + 1 + z.toNat : Nat) : Int) = (at_ : Int) + 1 + z by omega]
      exact g1.new hq
end
end GK
end
section
set_option Elab.async false
set_option linter.all false
set_option maxRecDepth 100000
set_option maxHeartbeats 4000000
namespace GK
open PySem PySem.Spec PyProof.Rows L2
theorem counts_at : ∀ n : Nat, n ≤ 12 → ([.int 5, .int 3, .int 2, .int 3, .int 1, .int 2, .int 0, .int 0, .int 0, .int 1, .int 1, .int 2, .int 0] : List V)[n]? = some (.int ((countsT.getD n 0 : Nat) : Int))
  | 0, _ => rfl
  | 1, _ => rfl
  | 2, _ => rfl
  | 3, _ => rfl
  | 4, _ => rfl
  | 5, _ => rfl
  | 6, _ => rfl
  | 7, _ => rfl
  | 8, _ => rfl
  | 9, _ => rfl
  | 10, _ => rfl
  | 11, _ => rfl
  | 12, _ => rfl
  | n + 13, h => absurd h (by omega)
theorem in_at : ∀ n : Nat, n ≤ 12 → inV (.int (n : Int)) [.int 1, .int 2, .int 3, .int 6, .int 7, .int 8] = decide ((n : Int) = 1 ∨ (n : Int) = 2 ∨ (n : Int) = 3 ∨ (n : Int) = 6 ∨ (n : Int) = 7 ∨ (n : Int) = 8)
  | 0, _ => by decide
  | 1, _ => by decide
  | 2, _ => by decide
  | 3, _ => by decide
  | 4, _ => by decide
  | 5, _ => by decide
  | 6, _ => by decide
  | 7, _ => by decide
  | 8, _ => by decide
  | 9, _ => by decide
  | 10, _ => by decide
  | 11, _ => by decide
  | 12, _ => by decide
  | n + 13, h => absurd h (by omega)
theorem rows_at : ∀ n : Nat, n ≤ 12 → ([.int 1, .int 1, .int 1, .int 1, .int 1, .int 0, .int 1, .int 1, .int 1, .int 0, .int 0, .int 0, .int 0] : List V)[n]? = some (.int ((rowsT.getD n 0 : Nat) : Int)) ∧ (if decide (((rowsT.getD n 0 : Nat) : Int) = 1) = true then 1 else 0) = rowsT.getD n 0
  | 0, _ => ⟨rfl, rfl⟩
  | 1, _ => ⟨rfl, rfl⟩
  | 2, _ => ⟨rfl, rfl⟩
  | 3, _ => ⟨rfl, rfl⟩
  | 4, _ => ⟨rfl, rfl⟩
  | 5, _ => ⟨rfl, rfl⟩
  | 6, _ => ⟨rfl, rfl⟩
  | 7, _ => ⟨rfl, rfl⟩
  | 8, _ => ⟨rfl, rfl⟩
  | 9, _ => ⟨rfl, rfl⟩
  | 10, _ => ⟨rfl, rfl⟩
  | 11, _ => ⟨rfl, rfl⟩
  | 12, _ => ⟨rfl, rfl⟩
  | n + 13, h => absurd h (by omega)
section
variable {P : Program} {w : World} {K : PySem.W.Frag} {mg : Str → Option Value} {base : Heap}
/-- a list that is handed in: cells that hold it -/
theorem sql_cells {K : PySem.W.Frag} {H : Hp} {a : Addr} {xs : List V} (h : SqL K H a xs) : ∃ c : Cells, Owns H c ∧ ∀ H' F, Owns H' (c + F) → SqL K H' a xs := by
  rcases h with (h | ⟨o, h⟩) | h
  · exact ⟨cel a (.lst xs), fun b u => ⟨cel_le _ _ _ _, fun p => by
      obtain ⟨rfl, rfl⟩ := cel_pos p
      exact h⟩, fun H' F g => SqL.of g.get⟩
  · exact ⟨cel a (.frz o (.lst xs)), fun b u => ⟨cel_le _ _ _ _, fun p => by
      obtain ⟨rfl, rfl⟩ := cel_pos p
      exact h⟩, fun H' F g => .inl (.inr ⟨o, g.get⟩)⟩
  · exact ⟨nil, fun b u => ⟨Nat.zero_le _, fun p => absurd p (Nat.lt_irrefl 0)⟩, fun H' F g => .inr h⟩
def sp_answers (K : PySem.W.Frag) : Sp := fun vs H Q _ => ∃ (a : Addr) (calls res : List Int), vs = [.ref a] ∧ SqL K H a (calls.map V.int) ∧ GK.answers calls = some res ∧ ∀ H' p, H' p = some (.lst (res.map V.int)) → Q (.ref p) H'
theorem sc_answers : FnScope ["calls", "house", "found", "at", "call", "end", "numbers", "row", "asks", "answer"] ["calls"] (defScope s_answers) := ⟨rfl, rfl, rfl, by decide +kernel, rfl, by decide +kernel, by decide +kernel⟩
theorem ok_answers (T : Env K mg) {fd : FuncData} (F : FnP K "answers" "answers" s_answers (He.fAd K ("answers", none)) fd) : FnOk P w K mg base CX0 12 (He.fAd K ("answers", none)) fd ["calls"] (sp_answers K) := by
  refine F.ok sc_answers (fun vs H Q E h => ?_) (fun cdv A outer s H vs Q E hr h => ?_)
  · obtain ⟨a, calls, res, rfl, hS, hm, k⟩ := h
    rfl
  · obtain ⟨a, calls, res, rfl, hS, hm, k⟩ := h
    refine ⟨_, PSs.nox (pss_cons (ps_set (i := 1) sc_answers.nd rfl (Or.inl rfl) pe_non)
      (pss_cons (ps_set (i := 2) sc_answers.nd rfl (Or.inl rfl) (pe_lst pa_nil))
      (pss_cons (ps_set (i := 3) sc_answers.nd rfl (Or.inl rfl) pe_int)
      (pss_cons (ps_while PassesOwn.never (pt_cmpR op_lt (pv 3) (pe_callB call_len_seq (by rfl) T.f_len PySem.boot_len (pa_cons (pv 0) pa_nil)) (nomark _))
        (pss_cons (ps_set (i := 4) sc_answers.nd rfl (Or.inl rfl) (pe_ix (kix (K := K) rfl) (pv 0) (pv 3) (fun _ _ => rfl)))
      (pss_cons (ps_set (i := 5) sc_answers.nd rfl (Or.inl rfl) (pe_op op_add (pe_op op_add (pv 3) pe_int) (pe_ix (kixT (K := K) rfl) (pe_glob (v := .ref (He.ga K "COUNTS")) rfl T.g_COUNTS rfl) (pv 4) (fun _ _ => rfl))))
      (pss_cons (ps_set (i := 6) sc_answers.nd rfl (Or.inl rfl) (pe_slice sl_list (pv 0) (po_some (pe_op op_add (pv 3) pe_int)) (po_some (pv 5))))
      (pss_cons (ps_asg (pcl (K := K) rfl T.g_row_at (ok_row_at T) (hr.mono (by decide)) (pa_cons (pv 0) (pa_cons (pv 5) (pa_cons (pe_cmpR op_eq (pe_ix (kixT (K := K) rfl) (pe_glob (v := .ref (He.ga K "ROWS")) rfl T.g_ROWS rfl) (pv 4) (fun _ _ => rfl)) pe_int (nomark _)) pa_nil)))) (ktup (K := K) rfl rfl (pgs_cons (pg_name (i := 7) sc_answers.nd rfl (Or.inl rfl)) (pgs_cons (pg_name (i := 3) sc_answers.nd rfl (Or.inl rfl)) pgs_nil))))
      (pss_cons (ps_set (i := 8) sc_answers.nd rfl (Or.inl rfl) (pmk (K := K) rfl T.k_Asks T.g_Asks (ok_Asks_init T) (hr.mono (by decide)) (pa_cons (pv 7) pa_nil)))
      (Evl.pss_cut (ps_if (pt_cmpR op_eq (pv 4) pe_int (nomark _))
        (pss_one (ps_asg (pcl (K := K) rfl T.g_begun (ok_begun T) (hr.mono (by decide)) (pa_cons (pv 1) (pa_cons (pv 6) (pa_cons (pv 8) pa_nil)))) (ktup (K := K) rfl rfl (pgs_cons (pg_name (i := 1) sc_answers.nd rfl (Or.inl rfl)) (pgs_cons (pg_name (i := 9) sc_answers.nd rfl (Or.inl rfl)) pgs_nil)))))
        (pss_one (ps_if (pt_cmpR op_in_seq (pv 4) (pe_tup (pa_cons pe_int (pa_cons pe_int (pa_cons pe_int (pa_cons pe_int (pa_cons pe_int (pa_cons pe_int pa_nil))))))) (by rfl))
        (pss_one (ps_set (i := 9) sc_answers.nd rfl (Or.inl rfl) (pcl (K := K) rfl T.g_changing (ok_changing T) (hr.mono (by decide)) (pa_cons (pv 1) (pa_cons (pv 4) (pa_cons (pv 6) (pa_cons (pv 8) pa_nil)))))))
        (pss_one (ps_set (i := 9) sc_answers.nd rfl (Or.inl rfl) (pcl (K := K) rfl T.g_plain (ok_plain T) (hr.mono (by decide)) (pa_cons (pv 1) (pa_cons (pv 4) (pa_cons (pv 6) (pa_cons (pv 7) pa_nil))))))))))
      (pss_cons (ps_set (i := 9) sc_answers.nd rfl (Or.inl rfl) (pe_op op_cat (pmt0 (K := K) rfl (pv 8) T.c_Asks T.m_Asks_row (ok_Asks_row T) (hr.mono (by decide))) (pv 9)))
      (pss_cons (ps_expr (pe_bm PySem.F.plainAttrs_list PySem.F.slot_list_append PySem.F.type_list_append mt_append (pv 2) (pa_cons (pe_callB call_len_seq (by rfl) T.f_len PySem.boot_len (pa_cons (pv 9) pa_nil)) pa_nil)))
      (pss_one (ps_expr (pe_bm PySem.F.plainAttrs_list PySem.F.slot_list_extend PySem.F.type_list_extend mt_extend (pv 2) (pa_cons (pv 9) pa_nil)))))))))))))
      (pss_one (ps_ret (pv 2))))))), ?_⟩
    obtain ⟨cz, hcz, hcs⟩ := sql_cells hS
    refine ⟨Nat.zero_le _, fun fl hfl => ?_⟩
    have h0 := hcz.new hfl (o := .lst [])
    refine ⟨fun f σ H' => ∃ (at_ : Nat) (h : Option MHouse) (found : List Int) (vh : V) (c : Cells) (o4 o5 o6 o7 o8 o9 : Option V), σ = [some (.ref a), some vh, some (.ref fl), some (.int (at_ : Int)), o4, o5, o6, o7, o8, o9] ∧
      OptH K vh h c ∧ Owns H' (cel fl (.lst (found.map V.int)) + (c + cz)) ∧ mainL f calls at_ h found = some res,
      ⟨calls.length, 0, none, [], .non, nil, none, none, none, none, none, none, rfl, ⟨rfl, rfl⟩, h0.to (by
        show _ = cel fl (.lst []) + (nil + cz)
        rw [nil_add]), hm⟩, ?_⟩
    rintro f σ H1 ⟨at_, h, found, vh, c, o4, o5, o6, o7, o8, o9, rfl, hh, g, ht⟩
    have hS1 : SqL K H1 a (calls.map V.int) := hcs _ (cel fl (.lst (found.map V.int)) + c) (g.to (by ac_rfl))
    refine ⟨_, rfl, _, rfl, a, _, rfl, .inl hS1, _, _, rfl, rfl, _, rfl, ?_⟩
    rw [List.length_map]
    refine ite2 (fun q => ?_) (fun q => ?_)
    case refine_2 =>
      have q : ¬ at_ < calls.length := fun w => q (decide_eq_true (by omega))
      have e : some found = some res := by
        cases f with
        | zero =>
          unfold mainL at ht
          rw [if_neg q] at ht
          exact ht
        | succ f =>
          unfold mainL at ht
          rw [if_neg q] at ht
          exact ht
      cases e
      exact ⟨_, rfl, k _ fl g.get⟩
    have q : at_ < calls.length := by
      have := of_decide_eq_true q
      omega
    cases f with
    | zero =>
      unfold mainL at ht
      rw [if_pos q] at ht
      cases ht
    | succ f =>
    unfold mainL at ht
    rw [if_pos q] at ht
    obtain ⟨call, hcall, ht⟩ := Option.bind_eq_some_iff.mp ht
    split at ht
    case isFalse => cases ht
    rename_i hb
    obtain ⟨hb0, hb1, hb2⟩ := hb
    obtain ⟨⟨row, to⟩, hrow, ht⟩ := Option.bind_eq_some_iff.mp ht
    obtain ⟨⟨h', xs⟩, hone, ht⟩ := Option.bind_eq_some_iff.mp ht
    split at ht
    case isFalse => cases ht
    rename_i hlim
    obtain ⟨cn, rfl⟩ : ∃ n : Nat, call = (n : Int) := ⟨call.toNat, by omega⟩
    have hcn : cn ≤ 12 := by omega
    rw [Int.toNat_natCast] at hb2 hrow hone
    refine ⟨_, fun σ' H' z => ⟨f, Nat.lt_succ_self f, z⟩, ?_⟩
    -- call = calls[at]
    refine ⟨_, rfl, _, rfl, a, _, _, _, rfl, rfl, hS1, at_int (j := at_) rfl hcall, ?_⟩
    -- end = at + 1 + COUNTS[call]
    refine ⟨_, rfl, _, _, rfl, rfl, _, rfl, _, _, _, _, rfl, rfl, T.t_COUNTS _, at_of (j := cn) rfl (counts_at cn hcn), _, _, rfl, rfl, ?_⟩
    have e5 : (at_ : Int) + 1 + ((countsT.getD cn 0 : Nat) : Int) = ((at_ + 1 + countsT.getD cn 0 : Nat) : Int) := by omega
    dsimp only
    rw [e5]
    -- numbers = calls[at + 1:end]
    refine ⟨_, rfl, _, rfl, _, _, rfl, rfl, _, rfl, _, rfl, _, rfl, a, _, rfl, hS1, fun p hp => ?_⟩
    have g1 := g.new hp (o := .lst (cutV (calls.map V.int) (some ((at_ : Int) + 1)) (some ((at_ + 1 + countsT.getD cn 0 : Nat) : Int))))
    have ec : cutV (calls.map V.int) (some ((at_ : Int) + 1)) (some ((at_ + 1 + countsT.getD cn 0 : Nat) : Int)) = ((calls.drop (at_ + 1)).take (countsT.getD cn 0)).map V.int := by
      have e := cut2 calls (at_ + 1) (at_ + 1 + countsT.getD cn 0) (by omega)
      rw [show at_ + 1 + countsT.getD cn 0 - (at_ + 1) = countsT.getD cn 0 by omega, Int.natCast_add] at e
      exact e
    rw [ec] at g1 ⊢
    have hnl : ((calls.drop (at_ + 1)).take (countsT.getD cn 0)).length = countsT.getD cn 0 := by
      rw [List.length_take, List.length_drop]
      omega
    generalize (calls.drop (at_ + 1)).take (countsT.getD cn 0) = nums at g1 hone hnl ⊢
    generalize upd H1 p (.lst (nums.map V.int)) = H2 at g1 ⊢
    -- row, at = row_at(calls, end, ROWS[call] == 1)
    obtain ⟨hr1, hr2⟩ := rows_at cn hcn
    have hS2 : SqL K H2 a (calls.map V.int) := hcs _ (cel p (.lst (nums.map V.int)) + (cel fl (.lst (found.map V.int)) + c)) (g1.to (by ac_rfl))
    refine ⟨_, rfl, _, rfl, _, rfl, _, _, _, _, rfl, rfl, T.t_ROWS _, at_of (j := cn) rfl hr1, rfl, ?_⟩
    dsimp only
    rw [dec_int]
    refine ⟨a, calls, row, at_ + 1 + countsT.getD cn 0, to, _, _, rfl, hS2, g1, by rw [hr2]; exact hrow, fun H3 t s3 g3 => ?_⟩
    refine ⟨t, _, rfl, SqT.of (g3.rd t), rfl, _, _, rfl, _, _, rfl, rfl, ?_⟩
    -- asks = Asks(row)
    refine ⟨_, rfl, fun x dx hx hdx ne => ?_⟩
    have g4 := g3.r.mk (u := .own x) (o := .ins (He.ga K "Asks") dx []) hx hdx ne
    refine ⟨x, dx, s3, row, _, rfl, g4, fun H5 d hA hd g5 => ⟨rfl, ?_⟩⟩
    have g6 : Owns H5 (c + (d + (cel p (.lst (nums.map V.int)) + (cel fl (.lst (found.map V.int)) + cz)))) := g5.to (by ac_rfl)
    clear g5 g4 g3 g1 g
    -- what stands behind the call
    refine ⟨fun σ H' => ∃ (vh' : V) (A' : MAsks) (ys : List Int) (c' d' : Cells) (q : Addr), σ = [some (.ref a), some vh', some (.ref fl), some (.int (to : Int)), some (.int (cn : Int)), some (.int ((at_ + 1 + countsT.getD cn 0 : Nat) : Int)), some (.ref p), some (.ref s3), some (.ref x), some (.ref q)] ∧
      OptH K vh' h' c' ∧ AsksAt K x A' d' ∧ Owns H' (cel q (.lst (ys.map V.int)) + (c' + (d' + (cel fl (.lst (found.map V.int)) + cz)))) ∧ (rowOf A'.rows).length + ys.length ≤ LIM ∧ xs = rowOf A'.rows ++ ys, ?_, ?_⟩
    · unfold oneCall at hone
      refine ⟨_, rfl, rfl, _, rfl, ?_⟩
      rw [dec_int]
      by_cases q0 : (cn : Int) = 0
      · rw [if_pos q0] at hone
        obtain ⟨⟨A1, h1, ys⟩, hbg, hone⟩ := Option.bind_eq_some_iff.mp hone
        split at hone
        case isFalse => cases hone
        rename_i hl2
        cases hone
        refine iteYd q0 ⟨_, rfl, _, rfl, _, rfl, vh, x, p, h, h1, ⟨row, []⟩, A1, nums, ys, c, d, cel fl (.lst (found.map V.int)) + cz, rfl, hh, hA, g6, hbg, fun H6 v6 c6 d6 q6 p6 hh6 hA6 g7 => ?_⟩
        exact ⟨q6, _, rfl, SqT.of (g7.rd q6), rfl, _, _, rfl, _, _, rfl, rfl, v6, A1, ys, c6, d6, p6, rfl, hh6, hA6, g7.r, hl2, rfl⟩
      rw [if_neg q0] at hone
      refine iteNd q0 ?_
      refine ⟨_, rfl, (by show 6 ≤ sizeLine; decide), fun t2 ht2 => ?_⟩
      have g7 := g6.new ht2 (o := .tup [.int 1, .int 2, .int 3, .int 6, .int 7, .int 8])
      refine ⟨t2, _, rfl, .inr (SqT.of g7.get), rfl, rfl, _, rfl, ?_⟩
      have g8 := g7.r
      rw [if_neg (by decide), in_at cn hcn]
      by_cases q1 : (cn : Int) = 1 ∨ (cn : Int) = 2 ∨ (cn : Int) = 3 ∨ (cn : Int) = 6 ∨ (cn : Int) = 7 ∨ (cn : Int) = 8
      · rw [if_pos q1] at hone
        obtain ⟨h0, eh, hone2⟩ := Option.bind_eq_some_iff.mp hone
        clear hone
        subst eh
        obtain ⟨⟨A1, h1, ys⟩, hch, hone⟩ := Option.bind_eq_some_iff.mp hone2
        split at hone
        case isFalse => cases hone
        rename_i hl2
        cases hone
        obtain ⟨a1, L, rfl, hH⟩ := hh
        exact iteYd q1 ⟨_, rfl, _, rfl, _, rfl, _, rfl, a1, x, p, L, h0, h1, ⟨row, []⟩, A1, (cn : Int), nums, ys, c, d, cel fl (.lst (found.map V.int)) + cz, rfl, hnl, hH, hA, g8, hch, fun H6 L6 c6 d6 q6 hH6 hA6 g9 => ⟨.ref a1, A1, ys, c6, d6, q6, rfl, ⟨a1, L6, rfl, hH6⟩, hA6, g9.sub (e := cel p (.lst (nums.map V.int))) (by ac_rfl), hl2, rfl⟩⟩
      · rw [if_neg q1] at hone
        obtain ⟨h0, eh, hone2⟩ := Option.bind_eq_some_iff.mp hone
        clear hone
        subst eh
        obtain ⟨⟨h1, ys⟩, hch, hone⟩ := Option.bind_eq_some_iff.mp hone2
        split at hone
        case isFalse => cases hone
        rename_i hl2
        cases hone
        obtain ⟨a1, L, rfl, hH⟩ := hh
        obtain ⟨ql, rfl⟩ := hd
        have hl2 : 1 + ys.length ≤ LIM := hl2
        exact iteNd q1 ⟨_, rfl, _, rfl, _, rfl, _, rfl, a1, p, s3, L, h0, h1, (cn : Int), nums, row, ys, c, cel x (.ins (He.ga K "Asks") dx (k_Asks.zip [.ref s3, .ref ql])) + (cel ql (.lst []) + nil) + (cel fl (.lst (found.map V.int)) + cz), rfl, by omega, hnl, hH, g8.to (by ac_rfl), hch, by omega, fun H6 L6 c6 q6 hH6 g9 => ⟨.ref a1, ⟨row, []⟩, ys, c6, _, q6, rfl, ⟨a1, L6, rfl, hH6⟩, ⟨dx, s3, ql, [], rfl, rfl⟩, g9.sub (e := cel p (.lst (nums.map V.int))) (by
          show _ = cel q6 (.lst (ys.map V.int)) + (c6 + (cel x (.ins (He.ga K "Asks") dx (k_Asks.zip [.ref s3, .ref ql])) + (cel s3 (.lst (row.map V.int)) + (cel ql (.lst []) + nil)) + (cel fl (.lst (found.map V.int)) + cz))) + _
          ac_rfl), hl2, rfl⟩⟩
    · rintro σ H6 ⟨vh', A', ys, c', d', q6, rfl, hh', hA', g7, hl2, rfl⟩
      obtain ⟨dx8, al8, ql8, rs8, hrs8, ed⟩ := id hA'
      have g8 := g7
      rw [ed] at g8
      -- answer = asks.row() + answer
      refine ⟨_, rfl, _, _, _, rfl, g8.rd x, lkn nx_Asks_row _, x, A', d', cel q6 (.lst (ys.map V.int)) + (c' + (cel fl (.lst (found.map V.int)) + cz)), rfl, hA', g7.to (by ac_rfl), by omega, fun H7 u g9 => ?_⟩
      refine ⟨_, rfl, u, q6, _, _, rfl, rfl, g9.rd u, g9.rd q6, by rw [List.length_map, List.length_map]; exact le_lim hl2, fun v hv => ?_⟩
      have g10 := g9.new hv (o := .lst ((rowOf A'.rows).map V.int ++ ys.map V.int))
      rw [← List.map_append] at g10 ⊢
      generalize rowOf A'.rows ++ ys = xs at hlim ht g10 ⊢
      have hlim : found.length + 1 + xs.length ≤ LIM := hlim
      -- found.append(len(answer))
      refine ⟨_, rfl, .inl ⟨rfl, _, SqL.of (g10.rd fl)⟩, _, rfl, _, _, rfl, .inl (SqL.of (g10.rd v)), fl, _, _, rfl, rfl, g10.rd fl, by rw [List.length_map]; exact lt_lim (by omega), ?_⟩
      rw [List.length_map]
      have g11 := g10.up fl (.lst (found.map V.int ++ [.int (xs.length : Int)]))
      -- found.extend(answer)
      refine ⟨_, rfl, .inl ⟨rfl, _, SqL.of (g11.rd fl)⟩, _, rfl, fl, v, _, _, rfl, rfl, g11.rd fl, g11.rd v, by rw [List.length_append, List.length_map, List.length_map]; exact le_lim hlim, ?_⟩
      have g12 := g11.up fl (.lst (found.map V.int ++ [.int (xs.length : Int)] ++ xs.map V.int))
      refine ⟨to, h', found ++ ((xs.length : Int) :: xs), vh', c', _, _, _, _, _, _, rfl, hh', g12.sub (e := cel v (.lst (xs.map V.int)) + (cel u (.lst ((rowOf A'.rows).map V.int)) + (d' + cel q6 (.lst (ys.map V.int))))) ?_, ht⟩
      rw [List.map_append, List.map_cons, List.append_cons]
      ac_rfl
end
end GK
end
section
set_option Elab.async false
set_option linter.all false
set_option maxRecDepth 100000
set_option maxHeartbeats 4000000
namespace GK
open PySem PySem.Spec PyProof.Rows L2
open PySem.W (OpenSpec Codec WData ReadsW ReadsAllW WellAll)
/-- as L2.walk_spec, with the written part found at the call -/
theorem walk_specE {r : OpenSpec} {k : Nat} {q : Program} {loose : List Str} {XP : (Str → Option Value) → Heap → Prop} {YP : World → Heap → Prop} {d : DefRec} {CX : CXT} {ps : List Str} {sp : PySem.W.Frag → Sp}
    (hwell : r.wellSaid = true) (hdf : d.params.defaults = []) (hlen : r.args.length = ps.length) (hr : Room k callerA)
    (F : ∀ (w : World) (mg : Str → Option Value) (fa : Addr) (h : Heap), YP w h → h.Ns mainGlobals mg → mg d.name = some (.ref fa) →
      ∃ (K : PySem.W.Frag) (fd : FuncData), K.In h ∧ (∀ (s : Shared) (us : List Value), us.length = ps.length → BindsTo s fd ⟨us, []⟩ (ps.zip us)) ∧
        ∀ base : Heap, K.In base → base.Ns mainGlobals mg → FnOk r.prog w K mg base CX k fa fd ps (sp K))
    (hsp : ∀ (K : PySem.W.Frag) (H : Hp) (xs : List V) (a : Codec.denoteAll r.args), OnlyF H → Codec.withinAll r.args a = true → Codec.app r.args r.asked a = true → DwAll K H xs (Codec.encAll r.args a) →
      sp K xs H (fun v H' => Dw K H' v (r.ret.enc (Codec.app r.args r.f a))) fun _ _ _ => False)
    (hCX : ∀ (H : Hp) (s : Shared) (e : Value) (s' : Shared), CX [] H s (fun _ _ _ => False) e s' → False) :
    PySem.W.WalkOS q loose XP YP r d [] (fun f vs => PySem.call f vs) := by
  intro w s₀ s₁ mg mb G Y fa o pm cd doc dV kV ho hd hcd hD hmg hg args vals as hpre hlay hrd hwl hlo
  obtain ⟨a, e1, e2⟩ := PySem.W.os_pre_some hpre
  obtain ⟨e3, hwi⟩ := Codec.encAll_of_decAll r.args args a e1
  subst e3
  obtain ⟨K, fd, KX, hb, hF⟩ := F w mg fa _ Y G.T.g hmg
  refine PySem.W.enter_call (codeAny_mono (spec_call (R := []) (cl := classAt s₀.heap) (d0 := r.ret.enc (Codec.app r.args r.f a)) KX G.T.g G.T.b G.T.builtins G.T.nolimit hg hwl (pl_encAll _ _) (layable_weight hlay) hr hF hb (by rw [encAll_len]; exact hlen)
    (fun H xs hO hS => hsp K H xs a hO hwi e2 hS) fun H e s' => hCX H s₁ e s') fun r' s' hq => ?_)
  obtain ⟨u, as', rfl, h1, h2, h3, h4⟩ := hq
  exact ⟨.inl ⟨u, _, as', rfl, fun _ => rfl, h1, (OpenSpec.post_iff hwell hwi _ _).mpr rfl, fun z => Bool.noConfusion (show false = true from z)⟩, h2, h3, h4⟩

open PySem.W PySem.Calls in
theorem the_end (PL : ∀ l : List Int, PySh30.answers_asked l = true → GK.answers l = some (PySh30.answers l)) : R.Holds := by
  refine HandSHeadRun.head_spec (r := R) (q := qv) (H := hk) (ob := ob) (M := 12000) (loose := names) (d := HandSHeadRun.topDef R.prog 56) (kwd := []) ob_eq
    (by kernel_rfl) (fun s => by kernel_rfl) run (by kernel_rfl) (by kernel_rfl) (by kernel_rfl) os_shapes (by first | assumption | decide +kernel) (by decide +kernel) ⟨rfl, rfl, rfl, rfl, rfl, by decide +kernel⟩ ?hw ?hc
  case hw => exact ⟨[.list [.int 0, .int 1, .int 1, .int 0, .int 16, .int 0, .int 0]], by decide +kernel, by decide +kernel⟩
  case hc =>
    refine walk_specE (r := R) (k := 12) (ps := ["calls"]) (CX := CX0) (sp := sp_answers) (by decide +kernel) (by kernel_rfl) rfl ⟨rfl, by decide, by decide⟩ ?F ?S (fun _ _ _ _ z => z)
    case F =>
      intro w mg fa h Y G hmg0
      obtain ⟨K, KX, c, x⟩ := Y
      have hmg : mg ("answers" : PySem.Str) = some (.ref fa) := by
        have e : (HandSHeadRun.topDef R.prog 56).name = ("answers" : PySem.Str) := by kernel_rfl
        rw [← e]
        exact hmg0
      have T : Env K mg := ⟨c, x, h, KX, G⟩
      have ef : fa = He.fAd K ("answers", none) := by
        have q := T.g_answers
        rw [hmg] at q
        exact Value.ref.inj (Option.some.inj q)
      subst ef
      obtain ⟨fd, F⟩ := T.d_answers
      have bd := FunD.bindsA (ps := ["calls"]) F fun _ _ _ _ _ _ us hl => match us, hl with | [_], _ => rfl
      exact ⟨K, fd, KX, bd, fun base _ _ => ok_answers T F⟩
    case S =>
      intro K H xs a hO hw hq hS
      obtain ⟨l, u⟩ := a
      have hS : DwAll K H xs [.list (l.map WData.int)] := hS
      have hq : PySh30.answers_asked l = true := hq
      cases hS with
      | cons h1 h2 =>
        cases h2
        cases h1 with
        | lst hL hD =>
          have e := ints_dw l _ hD
          subst e
          refine ⟨_, l, PySh30.answers l, rfl, hL, PL l hq, fun H' p hp => ?_⟩
          show Dw K H' (.ref p) (.list ((PySh30.answers l).map WData.int))
          exact .lst (SqL.of hp) (dw_ints _)
end GK
end
section
set_option linter.all false
namespace GK
/-! ### played with the mirror's asks -/
section
variable {σ τ Ask β α γ : Type}
/-- a program of the Spec from asks on: the state, the answer, all the rows then -/
def fin (out : Ask → List Int) (A : MAsks) (p : Given.Prog σ Ask α) : σ × α × List (List Int) :=
  ((p.played (A.ans.drop A.rows.length)).1, (p.played (A.ans.drop A.rows.length)).2.1, A.rows ++ (p.played (A.ans.drop A.rows.length)).2.2.1.map out)
def MAsks.add (A : MAsks) (x : List Int) : MAsks := ⟨A.ans, A.rows ++ [x]⟩
def MAsks.nxt (A : MAsks) : Int := (A.ans[A.rows.length]?).getD 0
theorem push_eq {A : MAsks} (x : List Int) (h : A.rows.length < LIM) : A.push x = some (A.add x, A.nxt) := if_pos h
theorem less_eq {A : MAsks} (p n : Int) (h : A.rows.length < LIM) : A.less p n = some (A.add [2, p, n]) := by
  unfold MAsks.less
  rw [push_eq _ h]
  rfl
theorem more_eq {A : MAsks} (n : Int) (h : A.rows.length < LIM) : A.more n = some (A.add [1, n], A.nxt) := push_eq _ h
theorem tell_eq {A : MAsks} (k p a b w : Int) (h : A.rows.length < LIM) : A.tell k p a b w = some (A.add [3, k, p, a, b, w]) := by
  unfold MAsks.tell
  rw [push_eq _ h]
  rfl
theorem fin_done (out : Ask → List Int) (A : MAsks) (s : σ) (a : α) : fin out A (.done s a) = (s, a, A.rows) := by
  unfold fin Given.Prog.played
  rw [List.map_nil, List.append_nil]
theorem fin_ask (out : Ask → List Int) (A : MAsks) (s : σ) (q : Ask) (k : σ → Int → Given.Prog σ Ask α) : fin out A (.ask s q k) = fin out (A.add (out q)) (k s A.nxt) := by
  have e1 : (A.ans.drop A.rows.length).headD 0 = A.nxt := by
    unfold MAsks.nxt
    rw [List.headD_eq_head?_getD, List.head?_drop]
  have e2 : (A.ans.drop A.rows.length).drop 1 = (A.add (out q)).ans.drop (A.add (out q)).rows.length := by
    rw [List.drop_drop]
    unfold MAsks.add
    rw [List.length_append]
    rfl
  unfold fin
  simp only [Given.Prog.played, e1, e2, List.map_cons]
  unfold MAsks.add
  simp
theorem fin_len (out : Ask → List Int) (A : MAsks) (p : Given.Prog σ Ask α) : A.rows.length ≤ (fin out A p).2.2.length := by
  unfold fin
  rw [List.length_append]
  exact Nat.le_add_right _ _
theorem fin_andThen (out : Ask → List Int) (f : σ → α → Given.Prog σ Ask γ) : ∀ (p : Given.Prog σ Ask α) (A : MAsks), fin out A (p.andThen f) = fin out ⟨A.ans, (fin out A p).2.2⟩ (f (fin out A p).1 (fin out A p).2.1)
  | .done s a, A => by
    rw [fin_done]
    rfl
  | .ask s q k, A => by
    show fin out A (.ask s q fun t z => (k t z).andThen f) = _
    rw [fin_ask, fin_ask, fin_andThen out f (k s A.nxt)]
    rfl
theorem fin_within {out : Ask → List Int} {out' : β → List Int} {put : τ → σ → τ} {get : τ → σ} {name : Ask → β} (hn : ∀ q, out' (name q) = out q) (h2 : ∀ b p, put (put b p) = put b) : ∀ (p : Given.Prog σ Ask α) (A : MAsks) (big : τ), (∀ p, get (put big p) = p) →
    fin out' A (p.within put get name big) = (put big (fin out A p).1, (fin out A p).2.1, (fin out A p).2.2)
  | .done s a, A, big, h1 => by
    rw [fin_done]
    show fin out' A (.done (put big s) a) = _
    rw [fin_done]
  | .ask s q k, A, big, h1 => by
    show fin out' A (.ask (put big s) (name q) fun t z => (k (get t) z).within put get name t) = _
    rw [fin_ask, fin_ask, hn, h1, fin_within hn h2 (k s A.nxt) (A.add (out q)) (put big s) (fun p => by rw [h2]; exact h1 p), h2]
theorem add_len (A : MAsks) (x : List Int) : (A.add x).rows.length = A.rows.length + 1 := by
  unfold MAsks.add
  rw [List.length_append]
  rfl
/-- room for one more ask -/
theorem fin_room {out : Ask → List Int} {A : MAsks} {x : List Int} {p : Given.Prog σ Ask α} (h : (fin out (A.add x) p).2.2.length ≤ LIM) : A.rows.length < LIM := by
  have := fin_len out (A.add x) p
  rw [add_len] at this
  omega
end
def o45 : Kg45.Ask → List Int
  | .more n => [1, (n : Int)]
  | .less p n => [2, (p : Int), n]
theorem o30_below (q : Kg46.Ask) : Sh30Neutral.askOut (.below q) = o45 q := by
  cases q <;> rfl
end GK
end
section
set_option linter.all false
namespace GK
/-! ### rows of pages: sorted, apart, none empty -/
def cov (l : List (Nat × Nat)) (i : Nat) : Prop := ∃ x ∈ l, x.1 ≤ i ∧ i < x.1 + x.2
def Canon : Nat → List (Nat × Nat) → Prop
  | _, [] => True
  | lo, x :: l => lo ≤ x.1 ∧ 0 < x.2 ∧ Canon (x.1 + x.2 + 1) l
theorem cov_nil (i : Nat) : ¬ cov [] i := fun ⟨_, h, _⟩ => by cases h
theorem cov_cons (x : Nat × Nat) (l : List (Nat × Nat)) (i : Nat) : cov (x :: l) i ↔ (x.1 ≤ i ∧ i < x.1 + x.2) ∨ cov l i := by
  constructor
  · rintro ⟨y, hy, h⟩
    rcases List.mem_cons.mp hy with rfl | hy
    · exact .inl h
    · exact .inr ⟨y, hy, h⟩
  · rintro (h | ⟨y, hy, h⟩)
    · exact ⟨x, List.mem_cons_self, h⟩
    · exact ⟨y, List.mem_cons_of_mem _ hy, h⟩
theorem cov_append (l m : List (Nat × Nat)) (i : Nat) : cov (l ++ m) i ↔ cov l i ∨ cov m i := by
  induction l with
  | nil => simp [cov_nil]
  | cons x l ih =>
    rw [List.cons_append, cov_cons, cov_cons, ih, or_assoc]
theorem canon_mono {a b : Nat} (h : a ≤ b) : ∀ {l : List (Nat × Nat)}, Canon b l → Canon a l
  | [], _ => trivial
  | x :: l, ⟨h1, h2, h3⟩ => ⟨Nat.le_trans h h1, h2, h3⟩
theorem canon_ge : ∀ {l : List (Nat × Nat)} {lo i : Nat}, Canon lo l → cov l i → lo ≤ i
  | [], lo, i, _, h => absurd h (cov_nil i)
  | x :: l, lo, i, ⟨h1, h2, h3⟩, h => by
    rcases (cov_cons x l i).mp h with h | h
    · omega
    · have := canon_ge h3 h
      omega
theorem canon_ext : ∀ {l m : List (Nat × Nat)} {a b : Nat}, Canon a l → Canon b m → (∀ i, cov l i ↔ cov m i) → l = m
  | [], [], _, _, _, _, _ => rfl
  | [], y :: m, _, _, _, ⟨h1, h2, h3⟩, h => absurd ((h y.1).mpr ((cov_cons _ _ _).mpr (.inl ⟨Nat.le_refl _, by omega⟩))) (cov_nil _)
  | x :: l, [], _, _, ⟨h1, h2, h3⟩, _, h => absurd ((h x.1).mp ((cov_cons _ _ _).mpr (.inl ⟨Nat.le_refl _, by omega⟩))) (cov_nil _)
  | x :: l, y :: m, a, b, ⟨h1, h2, h3⟩, ⟨k1, k2, k3⟩, h => by
    have hx : ∀ i, i < x.1 + x.2 + 1 → ¬ cov l i := fun i hi q => by
      have := canon_ge h3 q
      omega
    have hy : ∀ i, i < y.1 + y.2 + 1 → ¬ cov m i := fun i hi q => by
      have := canon_ge k3 q
      omega
    have e1 : x.1 = y.1 := by
      have p := (h x.1).mp ((cov_cons _ _ _).mpr (.inl ⟨Nat.le_refl _, by omega⟩))
      have q := (h y.1).mpr ((cov_cons _ _ _).mpr (.inl ⟨Nat.le_refl _, by omega⟩))
      have p2 := canon_ge (show Canon y.1 (y :: m) from ⟨Nat.le_refl _, k2, k3⟩) p
      have q2 := canon_ge (show Canon x.1 (x :: l) from ⟨Nat.le_refl _, h2, h3⟩) q
      omega
    have e2 : x.2 = y.2 := by
      rcases Nat.lt_trichotomy x.2 y.2 with c | c | c
      · have p := (h (x.1 + x.2)).mpr ((cov_cons _ _ _).mpr (.inl ⟨by omega, by omega⟩))
        rcases (cov_cons _ _ _).mp p with p | p
        · omega
        · exact absurd p (hx _ (by omega))
      · exact c
      · have p := (h (y.1 + y.2)).mp ((cov_cons _ _ _).mpr (.inl ⟨by omega, by omega⟩))
        rcases (cov_cons _ _ _).mp p with p | p
        · omega
        · exact absurd p (hy _ (by omega))
    have e : x = y := Prod.ext e1 e2
    subst e
    congr 1
    refine canon_ext h3 k3 fun i => ?_
    constructor
    · intro q
      have g := canon_ge h3 q
      rcases (cov_cons _ _ _).mp ((h i).mp ((cov_cons _ _ _).mpr (.inr q))) with p | p
      · omega
      · exact p
    · intro q
      have g := canon_ge k3 q
      rcases (cov_cons _ _ _).mp ((h i).mpr ((cov_cons _ _ _).mpr (.inr q))) with p | p
      · omega
      · exact p
theorem canon_pos : ∀ {l : List (Nat × Nat)} {lo : Nat}, Canon lo l → ∀ x ∈ l, 0 < x.2 ∧ lo ≤ x.1
  | y :: l, lo, ⟨h1, h2, h3⟩, x, hx => by
    rcases List.mem_cons.mp hx with rfl | hx
    · exact ⟨h2, h1⟩
    · have := canon_pos h3 x hx
      omega
theorem canon_end : ∀ {l : List (Nat × Nat)} {lo : Nat}, Canon lo l → ∀ x ∈ l, ¬ cov l (x.1 + x.2)
  | y :: l, lo, ⟨h1, h2, h3⟩, x, hx, h => by
    rcases List.mem_cons.mp hx with rfl | hx
    · rcases (cov_cons _ _ _).mp h with p | p
      · omega
      · have := canon_ge h3 p
        omega
    · rcases (cov_cons _ _ _).mp h with p | p
      · have hp := canon_pos h3 x hx
        omega
      · exact canon_end h3 x hx p
/-- what is covered without a gap lies in one row -/
theorem canon_in {l : List (Nat × Nat)} {lo q n : Nat} (h : Canon lo l) (hn : 0 < n) (hc : ∀ i, q ≤ i → i < q + n → cov l i) : ∃ x ∈ l, x.1 ≤ q ∧ q + n ≤ x.1 + x.2 := by
  obtain ⟨x, hx, h1, h2⟩ := hc q (Nat.le_refl _) (by omega)
  refine ⟨x, hx, h1, ?_⟩
  by_cases c : q + n ≤ x.1 + x.2
  · exact c
  · exact absurd (hc (x.1 + x.2) (by omega) (by omega)) (canon_end h x hx)
theorem joined_ok : ∀ {l : List (Nat × Nat)} {lo : Nat} {r : Nat × Nat}, Canon lo l → 0 < r.2 → lo ≤ r.1 → (∀ i, r.1 ≤ i → i < r.1 + r.2 → ¬ cov l i) →
    Canon lo (Kg45.joined l r) ∧ ∀ i, cov (Kg45.joined l r) i ↔ cov l i ∨ (r.1 ≤ i ∧ i < r.1 + r.2)
  | [], lo, r, _, hr, hl, _ => by
    refine ⟨⟨hl, hr, trivial⟩, fun i => ?_⟩
    show cov [r] i ↔ _
    rw [cov_cons]
    exact ⟨fun h => h.elim .inr .inl, fun h => h.elim .inr .inl⟩
  | x :: l, lo, r, ⟨h1, h2, h3⟩, hr, hl, hd => by
    unfold Kg45.joined
    by_cases c1 : r.1 + r.2 < x.1
    · rw [if_pos c1]
      refine ⟨⟨hl, hr, by omega, h2, h3⟩, fun i => ?_⟩
      rw [cov_cons]
      exact ⟨fun h => h.elim .inr .inl, fun h => h.elim .inr .inl⟩
    rw [if_neg c1]
    by_cases c2 : r.1 + r.2 = x.1
    · rw [if_pos c2]
      refine ⟨⟨hl, by show 0 < r.2 + x.2; omega, canon_mono (by show r.1 + (r.2 + x.2) + 1 ≤ _; omega) h3⟩, fun i => ?_⟩
      rw [cov_cons, cov_cons]
      show (r.1 ≤ i ∧ i < r.1 + (r.2 + x.2)) ∨ cov l i ↔ _
      constructor
      · rintro (h | h)
        · by_cases c : i < r.1 + r.2
          · exact .inr ⟨h.1, c⟩
          · exact .inl (.inl ⟨by omega, by omega⟩)
        · exact .inl (.inr h)
      · rintro ((h | h) | h)
        · exact .inl ⟨by omega, by omega⟩
        · exact .inr h
        · exact .inl ⟨by omega, by omega⟩
    rw [if_neg c2]
    by_cases c3 : x.1 + x.2 = r.1
    · rw [if_pos c3]
      obtain ⟨a, b⟩ := joined_ok (l := l) (lo := lo) (r := (x.1, x.2 + r.2)) (canon_mono (by omega) h3) (by show 0 < x.2 + r.2; omega) h1 (fun i i1 i2 q => by
        have i1 : x.1 ≤ i := i1
        have i2 : i < x.1 + (x.2 + r.2) := i2
        have := canon_ge h3 q
        exact hd i (by omega) (by omega) ((cov_cons _ _ _).mpr (.inr q)))
      refine ⟨a, fun i => ?_⟩
      rw [b i, cov_cons]
      show cov l i ∨ (x.1 ≤ i ∧ i < x.1 + (x.2 + r.2)) ↔ _
      constructor
      · rintro (h | h)
        · exact .inl (.inr h)
        · by_cases c : i < x.1 + x.2
          · exact .inl (.inl ⟨h.1, c⟩)
          · exact .inr ⟨by omega, by omega⟩
      · rintro ((h | h) | h)
        · exact .inr ⟨by omega, by omega⟩
        · exact .inl h
        · exact .inr ⟨by omega, by omega⟩
    rw [if_neg c3]
    have hxr : x.1 + x.2 + 1 ≤ r.1 := by
      by_cases c : x.1 + x.2 ≤ r.1
      · omega
      · have := hd (max x.1 r.1) (by omega) (by omega) ((cov_cons _ _ _).mpr (.inl ⟨by omega, by omega⟩))
        exact this.elim
    obtain ⟨a, b⟩ := joined_ok (l := l) (lo := x.1 + x.2 + 1) (r := r) h3 hr hxr (fun i i1 i2 q => hd i i1 i2 ((cov_cons _ _ _).mpr (.inr q)))
    refine ⟨⟨h1, h2, a⟩, fun i => ?_⟩
    rw [cov_cons, b i, cov_cons, or_assoc]
theorem without_none : ∀ {l : List (Nat × Nat)} {p n : Nat}, (∀ x ∈ l, p < x.1) → Kg45.without l p n = l
  | [], _, _, _ => rfl
  | x :: l, p, n, h => by
    have h1 := h x List.mem_cons_self
    have ih : Kg45.without l p n = l := without_none fun y hy => h y (List.mem_cons_of_mem _ hy)
    unfold Kg45.without at ih ⊢
    rw [List.flatMap_cons, ih, if_neg (by omega)]
    rfl
theorem without_ok : ∀ {l : List (Nat × Nat)} {lo p n : Nat}, Canon lo l → 0 < n → (∃ x ∈ l, x.1 ≤ p ∧ p + n ≤ x.1 + x.2) →
    Canon lo (Kg45.without l p n) ∧ ∀ i, cov (Kg45.without l p n) i ↔ cov l i ∧ ¬ (p ≤ i ∧ i < p + n)
  | [], _, _, _, _, _, ⟨_, h, _⟩ => by cases h
  | x :: l, lo, p, n, ⟨h1, h2, h3⟩, hn, ⟨y, hy, hy1, hy2⟩ => by
    by_cases c : x.1 ≤ p ∧ p + n ≤ x.1 + x.2
    · have e : Kg45.without (x :: l) p n = ((if x.1 < p then [(x.1, p - x.1)] else []) ++ (if p + n < x.1 + x.2 then [(p + n, x.1 + x.2 - (p + n))] else [])) ++ l := by
        have ih : Kg45.without l p n = l := without_none fun z hz => by
          have := (canon_pos h3 z hz).2
          omega
        unfold Kg45.without at ih ⊢
        rw [List.flatMap_cons, ih, if_pos c]
      rw [e]
      have hl : ∀ i, cov l i → ¬ (p ≤ i ∧ i < p + n) := fun i q => by
        have := canon_ge h3 q
        omega
      by_cases c1 : x.1 < p
      · rw [if_pos c1]
        by_cases c2 : p + n < x.1 + x.2
        · rw [if_pos c2]
          refine ⟨⟨h1, by show 0 < p - x.1; omega, by show x.1 + (p - x.1) + 1 ≤ p + n; omega, by show 0 < x.1 + x.2 - (p + n); omega, canon_mono (by show p + n + (x.1 + x.2 - (p + n)) + 1 ≤ _; omega) h3⟩, fun i => ?_⟩
          show cov ((x.1, p - x.1) :: (p + n, x.1 + x.2 - (p + n)) :: l) i ↔ _
          rw [cov_cons, cov_cons, cov_cons]
          show (x.1 ≤ i ∧ i < x.1 + (p - x.1)) ∨ (p + n ≤ i ∧ i < p + n + (x.1 + x.2 - (p + n))) ∨ cov l i ↔ _
          constructor
          · rintro (h | h | h)
            · exact ⟨.inl ⟨by omega, by omega⟩, by omega⟩
            · exact ⟨.inl ⟨by omega, by omega⟩, by omega⟩
            · exact ⟨.inr h, hl i h⟩
          · rintro ⟨h | h, k⟩
            · by_cases c : i < p
              · exact .inl ⟨by omega, by omega⟩
              · exact .inr (.inl ⟨by omega, by omega⟩)
            · exact .inr (.inr h)
        · rw [if_neg c2]
          refine ⟨⟨h1, by show 0 < p - x.1; omega, canon_mono (by show x.1 + (p - x.1) + 1 ≤ _; omega) h3⟩, fun i => ?_⟩
          show cov ((x.1, p - x.1) :: l) i ↔ _
          rw [cov_cons, cov_cons]
          show (x.1 ≤ i ∧ i < x.1 + (p - x.1)) ∨ cov l i ↔ _
          constructor
          · rintro (h | h)
            · exact ⟨.inl ⟨by omega, by omega⟩, by omega⟩
            · exact ⟨.inr h, hl i h⟩
          · rintro ⟨h | h, k⟩
            · exact .inl ⟨by omega, by omega⟩
            · exact .inr h
      · rw [if_neg c1]
        by_cases c2 : p + n < x.1 + x.2
        · rw [if_pos c2]
          refine ⟨⟨by show lo ≤ p + n; omega, by show 0 < x.1 + x.2 - (p + n); omega, canon_mono (by show p + n + (x.1 + x.2 - (p + n)) + 1 ≤ _; omega) h3⟩, fun i => ?_⟩
          show cov ((p + n, x.1 + x.2 - (p + n)) :: l) i ↔ _
          rw [cov_cons, cov_cons]
          show (p + n ≤ i ∧ i < p + n + (x.1 + x.2 - (p + n))) ∨ cov l i ↔ _
          constructor
          · rintro (h | h)
            · exact ⟨.inl ⟨by omega, by omega⟩, by omega⟩
            · exact ⟨.inr h, hl i h⟩
          · rintro ⟨h | h, k⟩
            · exact .inl ⟨by omega, by omega⟩
            · exact .inr h
        · rw [if_neg c2]
          refine ⟨canon_mono (by omega) h3, fun i => ?_⟩
          show cov l i ↔ _
          rw [cov_cons]
          constructor
          · intro h
            exact ⟨.inr h, hl i h⟩
          · rintro ⟨h | h, k⟩
            · omega
            · exact h
    · have e : Kg45.without (x :: l) p n = x :: Kg45.without l p n := by
        unfold Kg45.without
        rw [List.flatMap_cons, if_neg c]
        rfl
      have hyl : y ∈ l := by
        rcases List.mem_cons.mp hy with rfl | h
        · exact absurd ⟨hy1, hy2⟩ c
        · exact h
      obtain ⟨a, b⟩ := without_ok (lo := x.1 + x.2 + 1) (p := p) h3 hn ⟨y, hyl, hy1, hy2⟩
      rw [e]
      refine ⟨⟨h1, h2, a⟩, fun i => ?_⟩
      have hyp := (canon_pos h3 y hyl).2
      rw [cov_cons, b i, cov_cons]
      constructor
      · rintro (h | ⟨h, k⟩)
        · exact ⟨.inl h, by omega⟩
        · exact ⟨.inr h, k⟩
      · rintro ⟨h | h, k⟩
        · exact .inl h
        · exact .inr ⟨h, k⟩
theorem aligned_one (p : Nat) : Kg45.aligned p 1 = p := by
  unfold Kg45.aligned
  rw [Nat.add_sub_cancel, Nat.div_one, Nat.mul_one]
/-- all of so many from a place on -/
def allCov (l : List (Nat × Nat)) (p n : Nat) : Prop := ∀ i, p ≤ i → i < p + n → cov l i
theorem fits_cons (x : Nat × Nat) (l : List (Nat × Nat)) (n : Nat) : Kg45.fits (x :: l) n 1 = if n ≤ x.2 then some x.1 else Kg45.fits l n 1 := by
  unfold Kg45.fits
  rw [List.find?_cons, aligned_one]
  by_cases c : n ≤ x.2
  · rw [if_pos c, decide_eq_true (by omega)]
    show some (Kg45.aligned x.1 1) = _
    rw [aligned_one]
  · rw [if_neg c, decide_eq_false (by omega)]
theorem fits_some : ∀ {l : List (Nat × Nat)} {lo n p : Nat}, Canon lo l → 0 < n → Kg45.fits l n 1 = some p → allCov l p n ∧ ∀ q, q < p → ¬ allCov l q n
  | [], _, _, _, _, _, h => by cases h
  | x :: l, lo, n, p, ⟨h1, h2, h3⟩, hn, h => by
    rw [fits_cons] at h
    by_cases c : n ≤ x.2
    · rw [if_pos c] at h
      cases h
      refine ⟨fun i a b => (cov_cons _ _ _).mpr (.inl ⟨a, by omega⟩), fun q hq k => ?_⟩
      have := canon_ge (show Canon x.1 (x :: l) from ⟨Nat.le_refl _, h2, h3⟩) (k q (Nat.le_refl _) (by omega))
      omega
    · rw [if_neg c] at h
      obtain ⟨a, b⟩ := fits_some h3 hn h
      refine ⟨fun i i1 i2 => (cov_cons _ _ _).mpr (.inr (a i i1 i2)), fun q hq k => ?_⟩
      obtain ⟨y, hy, y1, y2⟩ := canon_in (show Canon lo (x :: l) from ⟨h1, h2, h3⟩) hn k
      rcases List.mem_cons.mp hy with rfl | hy
      · omega
      · exact b q hq fun i i1 i2 => ⟨y, hy, by omega, by omega⟩
theorem fits_none : ∀ {l : List (Nat × Nat)} {lo n : Nat}, Canon lo l → 0 < n → Kg45.fits l n 1 = none → ∀ q, ¬ allCov l q n
  | [], _, _, _, hn, _, q, k => cov_nil q (k q (Nat.le_refl _) (by omega))
  | x :: l, lo, n, ⟨h1, h2, h3⟩, hn, h, q, k => by
    rw [fits_cons] at h
    by_cases c : n ≤ x.2
    · rw [if_pos c] at h
      cases h
    · rw [if_neg c] at h
      obtain ⟨y, hy, y1, y2⟩ := canon_in (show Canon lo (x :: l) from ⟨h1, h2, h3⟩) hn k
      rcases List.mem_cons.mp hy with rfl | hy
      · omega
      · exact fits_none h3 hn h q fun i i1 i2 => ⟨y, hy, by omega, by omega⟩
end GK
end
section
set_option linter.all false
namespace GK
/-! ### marks -/
/-- the pages that have a mark -/
def at1 (l : List Int) (k : Int) (i : Nat) : Prop := l[i]? = some k
theorem setM_at (l : List Int) (f n : Nat) (k : Int) (i : Nat) : (setM l f n k)[i]? = if f ≤ i ∧ i < f + n then l[i]?.map (fun _ => k) else l[i]? := by
  unfold setM
  rw [List.getElem?_mapIdx]
  cases l[i]? with
  | none => simp
  | some x =>
    show some (if f ≤ i ∧ i < f + n then k else x) = if f ≤ i ∧ i < f + n then some k else some x
    split <;> rfl
theorem countP_range (p : Int → Bool) (l : List Int) : (l.filter p).length = ((List.range l.length).filter fun i => (l[i]?).any p).length := by
  have e : l = (List.range l.length).map fun i => l.getD i 0 := by
    refine List.ext_getElem (by simp) fun i h1 h2 => ?_
    simp [h1]
  conv => lhs; rw [e]
  rw [List.filter_map, List.length_map]
  congr 1
  refine List.filter_congr fun i hi => ?_
  have hi := List.mem_range.mp hi
  show p (l.getD i 0) = _
  rw [List.getD_eq_getElem?_getD, List.getElem?_eq_getElem hi]
  rfl
def covb (l : List (Nat × Nat)) (i : Nat) : Bool := l.any fun x => decide (x.1 ≤ i) && decide (i < x.1 + x.2)
theorem covb_iff (l : List (Nat × Nat)) (i : Nat) : covb l i = true ↔ cov l i := by
  unfold covb cov
  simp
theorem covb_cons (x : Nat × Nat) (l : List (Nat × Nat)) (i : Nat) : covb (x :: l) i = ((decide (x.1 ≤ i) && decide (i < x.1 + x.2)) || covb l i) := rfl
/-- rows by their places, one behind the other, none empty -/
def Dis : Nat → List (Nat × Nat) → Prop
  | _, [] => True
  | lo, x :: l => lo ≤ x.1 ∧ 0 < x.2 ∧ Dis (x.1 + x.2) l
theorem dis_mono {a b : Nat} (h : a ≤ b) : ∀ {l : List (Nat × Nat)}, Dis b l → Dis a l
  | [], _ => trivial
  | x :: l, ⟨h1, h2, h3⟩ => ⟨Nat.le_trans h h1, h2, h3⟩
theorem canon_dis : ∀ {l : List (Nat × Nat)} {lo : Nat}, Canon lo l → Dis lo l
  | [], _, _ => trivial
  | x :: l, lo, ⟨h1, h2, h3⟩ => ⟨h1, h2, dis_mono (Nat.le_succ _) (canon_dis h3)⟩
theorem dis_ge : ∀ {l : List (Nat × Nat)} {lo i : Nat}, Dis lo l → cov l i → lo ≤ i
  | [], lo, i, _, h => absurd h (cov_nil i)
  | x :: l, lo, i, ⟨h1, h2, h3⟩, h => by
    rcases (cov_cons x l i).mp h with h | h
    · omega
    · have := dis_ge h3 h
      omega
theorem count_range' : ∀ {l : List (Nat × Nat)} {lo N : Nat}, Dis lo l → lo ≤ N → (∀ i, cov l i → i < N) → ((List.range' lo (N - lo)).filter (covb l)).length = Kg45.count l
  | [], lo, N, _, _, _ => by
    have : ∀ m : List Nat, m.filter (covb []) = [] := fun m => by
      induction m with
      | nil => rfl
      | cons a m ih => rw [List.filter_cons]; simp [covb, ih] <;> exact ih
    rw [this]
    rfl
  | x :: l, lo, N, ⟨h1, h2, h3⟩, hN, hc => by
    have hx : x.1 + x.2 ≤ N := by
      have := hc (x.1 + x.2 - 1) ((cov_cons _ _ _).mpr (.inl ⟨by omega, by omega⟩))
      omega
    have e : List.range' lo (N - lo) = List.range' lo (x.1 - lo) ++ (List.range' x.1 x.2 ++ List.range' (x.1 + x.2) (N - (x.1 + x.2))) := by
      rw [show N - lo = (x.1 - lo) + (x.2 + (N - (x.1 + x.2))) by omega, ← List.range'_append_1, ← List.range'_append_1, show lo + (x.1 - lo) = x.1 by omega]
    rw [e, List.filter_append, List.filter_append, List.length_append, List.length_append]
    have e1 : (List.range' lo (x.1 - lo)).filter (covb (x :: l)) = [] := by
      rw [List.filter_eq_nil_iff]
      intro i hi q
      have hi := List.mem_range'_1.mp hi
      have := dis_ge (show Dis x.1 (x :: l) from ⟨Nat.le_refl _, h2, h3⟩) ((covb_iff _ _).mp q)
      omega
    have e2 : (List.range' x.1 x.2).filter (covb (x :: l)) = List.range' x.1 x.2 := by
      rw [List.filter_eq_self]
      intro i hi
      have hi := List.mem_range'_1.mp hi
      exact (covb_iff _ _).mpr ((cov_cons _ _ _).mpr (.inl ⟨hi.1, hi.2⟩))
    have e3 : (List.range' (x.1 + x.2) (N - (x.1 + x.2))).filter (covb (x :: l)) = (List.range' (x.1 + x.2) (N - (x.1 + x.2))).filter (covb l) := by
      refine List.filter_congr fun i hi => ?_
      have hi := List.mem_range'_1.mp hi
      rw [covb_cons, decide_eq_false (show ¬ i < x.1 + x.2 by omega), Bool.and_false, Bool.false_or]
    rw [e1, e2, e3, count_range' (h3) hx (fun i q => hc i ((cov_cons _ _ _).mpr (.inr q)))]
    simp [Kg45.count]
/-- how many pages have a mark -/
theorem countM_cov {l : List Int} {k : Int} {r : List (Nat × Nat)} (hr : Dis 0 r) (h : ∀ i, at1 l k i ↔ cov r i) : countM l k = (Kg45.count r : Int) := by
  unfold countM
  rw [countP_range, ← count_range' hr (Nat.zero_le l.length) (fun i q => (List.getElem?_eq_some_iff.mp ((h i).mpr q)).1)]
  rw [Nat.sub_zero, ← List.range_eq_range']
  congr 1
  congr 1
  refine List.filter_congr fun i hi => ?_
  rw [Bool.eq_iff_iff, covb_iff, ← h i]
  unfold at1
  cases l[i]? <;> simp
/-! #### the lowest place -/
def allM (l : List Int) (p n : Nat) : Prop := ∀ i, p ≤ i → i < p + n → at1 l 1 i
theorem fpGo_ok (l : List Int) (many : Nat) (hm : 0 < many) : ∀ (k i r : Nat), k = l.length - i → i ≤ l.length → r < many → r ≤ i → (∀ j, i - r ≤ j → j < i → at1 l 1 j) → (r = i ∨ ¬ at1 l 1 (i - r - 1)) → (∀ q, q + many ≤ i → ¬ allM l q many) →
    match fpGo (many : Int) (l.drop i) (i : Int) (r : Int) with
    | some p => ∃ n : Nat, p = (n : Int) ∧ allM l n many ∧ ∀ q, q < n → ¬ allM l q many
    | none => ∀ q, ¬ allM l q many
  | 0, i, r, hk, hi, hr, hri, ha, hb, hq => by
    have : i = l.length := by omega
    subst this
    rw [List.drop_length]
    show ∀ q, ¬ allM l q many
    intro q k
    have := (List.getElem?_eq_some_iff.mp (k (q + many - 1) (by omega) (by omega))).1
    exact hq q (by omega) k
  | k + 1, i, r, hk, hi, hr, hri, ha, hb, hq => by
    have hlt : i < l.length := by omega
    rw [List.drop_eq_getElem_cons hlt]
    unfold fpGo
    by_cases c : l[i] = 1
    · have hc : at1 l 1 i := by
        unfold at1
        rw [List.getElem?_eq_getElem hlt, c]
      rw [if_pos c]
      by_cases d : r + 1 = many
      · rw [if_pos (by omega)]
        refine ⟨i + 1 - many, by omega, fun j j1 j2 => ?_, fun q hq1 => hq q (by omega)⟩
        by_cases e : j = i
        · rw [e]
          exact hc
        · exact ha j (by omega) (by omega)
      · rw [if_neg (by omega)]
        have := fpGo_ok l many hm k (i + 1) (r + 1) (by omega) (by omega) (by omega) (by omega) (fun j j1 j2 => by
          by_cases e : j = i
          · rw [e]
            exact hc
          · exact ha j (by omega) (by omega)) (hb.elim (fun h => .inl (by omega)) fun h => .inr (by rw [show i + 1 - (r + 1) - 1 = i - r - 1 by omega]; exact h)) (fun q h a => by
          by_cases e : q + many ≤ i
          · exact hq q e a
          · have e2 : q = i + 1 - many := by omega
            rcases hb with h0 | h0
            · omega
            · exact h0 (a (i - r - 1) (by omega) (by omega)))
        rw [show ((i + 1 : Nat) : Int) = (i : Int) + 1 by omega, show ((r + 1 : Nat) : Int) = (r : Int) + 1 by omega] at this
        exact this
    · have hc : ¬ at1 l 1 i := fun h => by
        unfold at1 at h
        rw [List.getElem?_eq_getElem hlt] at h
        exact c (Option.some.inj h)
      rw [if_neg c]
      rw [if_neg (by omega)]
      have := fpGo_ok l many hm k (i + 1) 0 (by omega) (by omega) hm (by omega) (fun j j1 j2 => by omega) (.inr (by rw [show i + 1 - 0 - 1 = i by omega]; exact hc)) (fun q h a => by
        by_cases e : q + many ≤ i
        · exact hq q e a
        · exact hc (a i (by omega) (by omega)))
      rw [show ((i + 1 : Nat) : Int) = (i : Int) + 1 by omega] at this
      exact this
theorem freePlace_ok (l : List Int) (many : Nat) (hm : 0 < many) : match freePlace l (many : Int) with
    | some p => ∃ n : Nat, p = (n : Int) ∧ allM l n many ∧ ∀ q, q < n → ¬ allM l q many
    | none => ∀ q, ¬ allM l q many := by
  have := fpGo_ok l many hm l.length 0 0 (by omega) (Nat.zero_le _) hm (Nat.le_refl _) (fun j a b => by omega) (.inl rfl) (fun q h => by omega)
  rw [List.drop_zero] at this
  exact this
theorem freePlace_fits {l : List Int} {r : List (Nat × Nat)} (hr : Canon 0 r) (h : ∀ i, at1 l 1 i ↔ cov r i) {n : Nat} (hn : 0 < n) : freePlace l (n : Int) = (Kg45.fits r n 1).map fun (p : Nat) => (p : Int) := by
  have hall : ∀ p, allM l p n ↔ allCov r p n := fun p => ⟨fun a i i1 i2 => (h i).mp (a i i1 i2), fun a i i1 i2 => (h i).mpr (a i i1 i2)⟩
  have h1 := freePlace_ok l n hn
  cases e : freePlace l (n : Int) with
  | none =>
    rw [e] at h1
    cases e2 : Kg45.fits r n 1 with
    | none => rfl
    | some p => exact absurd ((hall p).mpr (fits_some hr hn e2).1) (h1 p)
  | some q =>
    rw [e] at h1
    obtain ⟨k, rfl, a, b⟩ := h1
    cases e2 : Kg45.fits r n 1 with
    | none => exact absurd ((hall k).mp a) (fits_none hr hn e2 k)
    | some p =>
      obtain ⟨c, d⟩ := fits_some hr hn e2
      have : k = p := by
        rcases Nat.lt_trichotomy k p with x | x | x
        · exact absurd ((hall k).mp a) (d k x)
        · exact x
        · exact absurd ((hall p).mpr c) (b p x)
      rw [this]
      rfl
/-! #### the highest row -/
theorem hiEnd_ok (l : List Int) : ∀ (n e : Nat), e ≤ n → (e = 0 ∨ at1 l 1 (e - 1)) → (∀ i, e ≤ i → i < n → ¬ at1 l 1 i) → hiEnd l n = e
  | 0, e, h, _, _ => by
    show 0 = e
    omega
  | n + 1, e, h, h1, h2 => by
    unfold hiEnd
    by_cases c : e = n + 1
    · rw [if_pos (by
        rcases h1 with h1 | h1
        · omega
        · rw [c] at h1
          exact h1)]
      exact c.symm
    · rw [if_neg (show ¬ l[n]? = some 1 from fun q => h2 n (by omega) (by omega) q)]
      exact hiEnd_ok l n e (by omega) h1 fun i a b => h2 i a (by omega)
theorem hiFirst_ok (l : List Int) : ∀ (n f : Nat), f ≤ n → (∀ i, f ≤ i → i < n → at1 l 1 i) → (f = 0 ∨ ¬ at1 l 1 (f - 1)) → hiFirst l n = f
  | 0, f, h, _, _ => by
    show 0 = f
    omega
  | n + 1, f, h, h1, h2 => by
    unfold hiFirst
    by_cases c : f = n + 1
    · rw [if_neg (by
        rcases h2 with h2 | h2
        · omega
        · rw [c] at h2
          exact h2)]
      exact c.symm
    · rw [if_pos (show l[n]? = some 1 from h1 n (by omega) (by omega))]
      exact hiFirst_ok l n f (by omega) (fun i a b => h1 i a (by omega)) h2
theorem canon_last : ∀ {l : List (Nat × Nat)} {lo : Nat} {x : Nat × Nat}, Canon lo l → l.getLast? = some x → (∀ i, cov l i → i < x.1 + x.2) ∧ x ∈ l
  | [], _, _, _, h => by cases h
  | [y], lo, x, _, h => by
    have : y = x := Option.some.inj h
    subst this
    refine ⟨fun i q => ?_, List.mem_cons_self⟩
    rcases (cov_cons _ _ _).mp q with q | q
    · exact q.2
    · exact absurd q (cov_nil _)
  | y :: z :: l, lo, x, ⟨h1, h2, h3⟩, h => by
    rw [List.getLast?_cons_cons] at h
    obtain ⟨a, b⟩ := canon_last h3 h
    refine ⟨fun i q => ?_, List.mem_cons_of_mem _ b⟩
    rcases (cov_cons _ _ _).mp q with q | q
    · have := (canon_pos h3 x b)
      omega
    · exact a i q
theorem canon_pre : ∀ {l : List (Nat × Nat)} {lo : Nat}, Canon lo l → ∀ x ∈ l, 0 < x.1 → ¬ cov l (x.1 - 1)
  | y :: l, lo, ⟨h1, h2, h3⟩, x, hx, hp, h => by
    rcases List.mem_cons.mp hx with rfl | hx
    · rcases (cov_cons _ _ _).mp h with p | p
      · omega
      · have := canon_ge h3 p
        omega
    · have hp2 := canon_pos h3 x hx
      rcases (cov_cons _ _ _).mp h with p | p
      · omega
      · exact canon_pre h3 x hx hp p
theorem hi_ok {l : List Int} {r : List (Nat × Nat)} {x : Nat × Nat} (hr : Canon 0 r) (h : ∀ i, at1 l 1 i ↔ cov r i) (hx : r.getLast? = some x) : hiE l = x.1 + x.2 ∧ hiF l = x.1 := by
  obtain ⟨a, b⟩ := canon_last hr hx
  have hp := canon_pos hr x b
  have hlast : cov r (x.1 + x.2 - 1) := ⟨x, b, by omega, by omega⟩
  have hlen := (List.getElem?_eq_some_iff.mp ((h _).mpr hlast)).1
  have e1 : hiE l = x.1 + x.2 := hiEnd_ok l l.length (x.1 + x.2) (by omega) (.inr ((h _).mpr hlast)) fun i i1 _ q => by
    have := a i ((h i).mp q)
    omega
  refine ⟨e1, ?_⟩
  unfold hiF
  rw [e1]
  refine hiFirst_ok l _ x.1 (by omega) (fun i i1 i2 => (h i).mpr ⟨x, b, i1, i2⟩) ?_
  rcases Nat.eq_zero_or_pos x.1 with c | c
  · exact .inl c
  · exact .inr fun q => canon_pre hr x b c ((h _).mp q)
end GK
end
section
set_option linter.all false
namespace GK
/-! #### all that's owned, by rows -/
def stepN (g : List (Nat × Nat)) (i : Nat) : List (Nat × Nat) := match g.getLast? with
  | some p => if p.1 + p.2 = i then g.dropLast ++ [(p.1, p.2 + 1)] else g ++ [(i, 1)]
  | none => g ++ [(i, 1)]
theorem stepN_joined : ∀ {g : List (Nat × Nat)} {lo i : Nat}, Canon lo g → (∀ j, cov g j → j < i) → stepN g i = Kg45.joined g (i, 1)
  | [], _, _, _, _ => rfl
  | [y], lo, i, ⟨h1, h2, h3⟩, h => by
    have := h (y.1 + y.2 - 1) ((cov_cons _ _ _).mpr (.inl ⟨by omega, by omega⟩))
    have e : Kg45.joined [y] (i, 1) = if y.1 + y.2 = i then Kg45.joined [] (y.1, y.2 + 1) else y :: Kg45.joined [] (i, 1) := by
      conv => lhs; unfold Kg45.joined
      rw [if_neg (by show ¬ i + 1 < y.1; omega), if_neg (by show ¬ i + 1 = y.1; omega)]
    rw [e]
    rfl
  | y :: z :: l, lo, i, ⟨h1, h2, h3⟩, h => by
    have hz := h (z.1 + z.2 - 1) ((cov_cons _ _ _).mpr (.inr ((cov_cons _ _ _).mpr (.inl ⟨by have := h3.2.1; omega, by have := h3.2.1; omega⟩))))
    have hz1 := h3.1
    have hz2 := h3.2.1
    have ih := stepN_joined h3 (i := i) fun j q => h j ((cov_cons _ _ _).mpr (.inr q))
    have e : Kg45.joined (y :: z :: l) (i, 1) = y :: Kg45.joined (z :: l) (i, 1) := by
      conv => lhs; unfold Kg45.joined
      rw [if_neg (by show ¬ i + 1 < y.1; omega), if_neg (by show ¬ i + 1 = y.1; omega), if_neg (by show ¬ y.1 + y.2 = i; omega)]
    rw [e, ← ih]
    unfold stepN
    rw [List.getLast?_cons_cons, List.dropLast_cons_cons]
    cases (z :: l).getLast? with
    | none => rfl
    | some p =>
      show (if p.1 + p.2 = i then _ else _) = y :: (if p.1 + p.2 = i then _ else _)
      split <;> rfl
def castR (x : Nat × Nat) : Int × Int := ((x.1 : Int), (x.2 : Int))
theorem ownStep_cast (g : List (Nat × Nat)) (i : Nat) (x : Int) (hx : x ≠ 0) : ownStep (g.map castR) (i : Int) x = (stepN g i).map castR := by
  unfold ownStep stepN
  rw [if_neg hx, List.getLast?_map]
  cases g.getLast? with
  | none =>
    show g.map castR ++ [((i : Int), 1)] = (g ++ [(i, 1)]).map castR
    rw [List.map_append]
    rfl
  | some p =>
    show (if (p.1 : Int) + (p.2 : Int) = (i : Int) then (g.map castR).dropLast ++ [((p.1 : Int), (p.2 : Int) + 1)] else g.map castR ++ [((i : Int), 1)]) = (if p.1 + p.2 = i then g.dropLast ++ [(p.1, p.2 + 1)] else g ++ [(i, 1)]).map castR
    by_cases c : p.1 + p.2 = i
    · rw [if_pos c, if_pos (by omega), List.map_append, List.map_dropLast]
      rfl
    · rw [if_neg c, if_neg (by omega), List.map_append]
      rfl
theorem ownGo_ok (l : List Int) : ∀ (k i : Nat) (g : List (Nat × Nat)), k = l.length - i → i ≤ l.length → Canon 0 g → (∀ j, cov g j ↔ j < i ∧ ∃ x, l[j]? = some x ∧ x ≠ 0) →
    ∃ r, ownGo (l.drop i) (i : Int) (g.map castR) = r.map castR ∧ Canon 0 r ∧ ∀ j, cov r j ↔ ∃ x, l[j]? = some x ∧ x ≠ 0
  | 0, i, g, hk, hi, hg, hc => by
    have : i = l.length := by omega
    subst this
    rw [List.drop_length]
    refine ⟨g, rfl, hg, fun j => ?_⟩
    rw [hc j]
    constructor
    · exact fun h => h.2
    · rintro ⟨x, h, hx⟩
      exact ⟨(List.getElem?_eq_some_iff.mp h).1, x, h, hx⟩
  | k + 1, i, g, hk, hi, hg, hc => by
    have hlt : i < l.length := by omega
    rw [List.drop_eq_getElem_cons hlt]
    unfold ownGo
    by_cases c : l[i] = 0
    · have e : ownStep (g.map castR) (i : Int) l[i] = g.map castR := by
        unfold ownStep
        rw [if_pos c]
      rw [e, show (i : Int) + 1 = ((i + 1 : Nat) : Int) by omega]
      refine ownGo_ok l k (i + 1) g (by omega) (by omega) hg fun j => ?_
      rw [hc j]
      constructor
      · exact fun h => ⟨by omega, h.2⟩
      · rintro ⟨h1, x, h, hx⟩
        refine ⟨?_, x, h, hx⟩
        by_cases d : j = i
        · rw [d, List.getElem?_eq_getElem hlt, c] at h
          exact absurd (Option.some.inj h).symm hx
        · omega
    · rw [ownStep_cast g i _ c, stepN_joined hg fun j q => ((hc j).mp q).1, show (i : Int) + 1 = ((i + 1 : Nat) : Int) by omega]
      obtain ⟨a, b⟩ := joined_ok (r := (i, 1)) hg (by show 0 < 1; decide) (Nat.zero_le _) fun j j1 j2 q => by
        have j1 : i ≤ j := j1
        have := ((hc j).mp q).1
        omega
      refine ownGo_ok l k (i + 1) _ (by omega) (by omega) a fun j => ?_
      rw [b j, hc j]
      show _ ∨ (i ≤ j ∧ j < i + 1) ↔ _
      constructor
      · rintro (⟨h1, h2⟩ | ⟨h1, h2⟩)
        · exact ⟨by omega, h2⟩
        · have : j = i := by omega
          subst this
          exact ⟨h2, _, List.getElem?_eq_getElem hlt, c⟩
      · rintro ⟨h1, h2⟩
        by_cases d : j = i
        · exact .inr ⟨by omega, by omega⟩
        · exact .inl ⟨by omega, h2⟩
theorem ownRows_ok (l : List Int) {r : List (Nat × Nat)} (hr : Canon 0 r) (h : ∀ j, cov r j ↔ ∃ x, l[j]? = some x ∧ x ≠ 0) : ownRows l = r.map castR := by
  obtain ⟨g, e, hg, hc⟩ := ownGo_ok l l.length 0 [] (by omega) (Nat.zero_le _) trivial fun j => by simp [cov_nil]
  unfold ownRows
  rw [List.drop_zero] at e
  have e : ownGo l 0 [] = g.map castR := e
  rw [e, canon_ext hg hr fun j => by rw [hc j, h j]]
/-! #### runs -/
def rr (l : List Kg45.Run) : List (Nat × Nat) := l.map fun r => (r.first, r.pages)
theorem dis_pos : ∀ {l : List (Nat × Nat)} {lo : Nat}, Dis lo l → ∀ x ∈ l, 0 < x.2 ∧ lo ≤ x.1
  | y :: l, lo, ⟨h1, h2, h3⟩, x, hx => by
    rcases List.mem_cons.mp hx with rfl | hx2
    · exact ⟨h2, h1⟩
    · have := dis_pos h3 x hx2
      omega
/-- two rows that share a page are one -/
theorem dis_same : ∀ {l : List (Nat × Nat)} {lo : Nat}, Dis lo l → ∀ x ∈ l, ∀ y ∈ l, ∀ i, x.1 ≤ i → i < x.1 + x.2 → y.1 ≤ i → i < y.1 + y.2 → x = y
  | z :: l, lo, ⟨h1, h2, h3⟩, x, hx, y, hy, i, a, b, c, d => by
    rcases List.mem_cons.mp hx with rfl | hx2
    · rcases List.mem_cons.mp hy with rfl | hy2
      · rfl
      · have := dis_pos h3 y hy2
        omega
    · rcases List.mem_cons.mp hy with rfl | hy2
      · have := dis_pos h3 x hx2
        omega
      · exact dis_same h3 x hx2 y hy2 i a b c d
theorem dis_sub : ∀ {l m : List (Nat × Nat)} {lo : Nat}, m.Sublist l → Dis lo l → Dis lo m
  | _, _, _, .slnil, _ => trivial
  | _, _, lo, .cons x h, ⟨h1, h2, h3⟩ => dis_sub h (dis_mono (by omega) h3)
  | _, _, lo, .cons₂ x h, ⟨h1, h2, h3⟩ => ⟨h1, h2, dis_sub h h3⟩
theorem insert_ok : ∀ {l : List Kg45.Run} {lo : Nat} {r : Kg45.Run}, Dis lo (rr l) → 0 < r.pages → lo ≤ r.first → (∀ i, r.first ≤ i → i < r.first + r.pages → ¬ cov (rr l) i) → Dis lo (rr (Kg45.insert l r)) ∧ (Kg45.insert l r).Perm (r :: l)
  | [], lo, r, _, hp, hl, _ => ⟨⟨hl, hp, trivial⟩, List.Perm.refl _⟩
  | x :: l, lo, r, ⟨h1, h2, h3⟩, hp, hl, hd => by
    have h1 : lo ≤ x.first := h1
    have h2 : 0 < x.pages := h2
    unfold Kg45.insert
    by_cases c : r.first < x.first
    · rw [if_pos c]
      refine ⟨⟨hl, hp, ?_, h2, h3⟩, List.Perm.refl _⟩
      show r.first + r.pages ≤ x.first
      by_cases d : r.first + r.pages ≤ x.first
      · exact d
      · exact absurd ((cov_cons _ _ _).mpr (.inl ⟨Nat.le_refl _, by show x.first < x.first + x.pages; omega⟩)) (hd x.first (by omega) (by omega))
    · rw [if_neg c]
      have hge : x.first + x.pages ≤ r.first := by
        by_cases d : x.first + x.pages ≤ r.first
        · exact d
        · exact absurd ((cov_cons _ _ _).mpr (.inl ⟨by show x.first ≤ r.first; omega, by show r.first < x.first + x.pages; omega⟩)) (hd r.first (Nat.le_refl _) (by omega))
      obtain ⟨a, b⟩ := insert_ok (l := l) (lo := x.first + x.pages) (r := r) h3 hp hge fun i i1 i2 q => hd i i1 i2 ((cov_cons _ _ _).mpr (.inr q))
      exact ⟨⟨h1, h2, a⟩, (b.cons x).trans (List.Perm.swap r x l)⟩
theorem cov_perm {l m : List (Nat × Nat)} (h : l.Perm m) (i : Nat) : cov l i ↔ cov m i := by
  unfold cov
  constructor
  · rintro ⟨x, hx, q⟩
    exact ⟨x, h.mem_iff.mp hx, q⟩
  · rintro ⟨x, hx, q⟩
    exact ⟨x, h.mem_iff.mpr hx, q⟩
theorem dis_nodup : ∀ {l : List (Nat × Nat)} {lo : Nat}, Dis lo l → (l.map (·.1)).Nodup
  | [], _, _ => List.nodup_nil
  | x :: l, lo, ⟨h1, h2, h3⟩ => by
    rw [List.map_cons, List.nodup_cons]
    refine ⟨fun h => ?_, dis_nodup h3⟩
    obtain ⟨y, hy, e⟩ := List.mem_map.mp h
    have := dis_pos h3 y hy
    omega
end GK
end
section
set_option linter.all false
namespace GK
/-! ### marks and rows -/
structure Mk (l : List Int) (f r : List (Nat × Nat)) : Prop where
  can : Canon 0 f
  dis : Dis 0 r
  m1 : ∀ i, at1 l 1 i ↔ cov f i
  m2 : ∀ i, at1 l 2 i ↔ cov r i
  m3 : ∀ (i : Nat) (x : Int), l[i]? = some x → x = 0 ∨ x = 1 ∨ x = 2
theorem at1_set {l : List Int} {f n : Nat} {k j : Int} {i : Nat} (h : f + n ≤ l.length) : at1 (setM l f n k) j i ↔ if f ≤ i ∧ i < f + n then k = j else at1 l j i := by
  unfold at1
  rw [setM_at]
  by_cases c : f ≤ i ∧ i < f + n
  · rw [if_pos c, if_pos c, List.getElem?_eq_getElem (by omega)]
    simp
  · rw [if_neg c, if_neg c]
theorem set3 {l : List Int} {f n : Nat} {k : Int} (hk : k = 0 ∨ k = 1 ∨ k = 2) (h : ∀ (i : Nat) (x : Int), l[i]? = some x → x = 0 ∨ x = 1 ∨ x = 2) : ∀ (i : Nat) (x : Int), (setM l f n k)[i]? = some x → x = 0 ∨ x = 1 ∨ x = 2 := by
  intro i x hx
  rw [setM_at] at hx
  by_cases c : f ≤ i ∧ i < f + n
  · rw [if_pos c] at hx
    obtain ⟨y, _, e⟩ := Option.map_eq_some_iff.mp hx
    rw [← e]
    exact hk
  · rw [if_neg c] at hx
    exact h i x hx
theorem Mk.apart {l : List Int} {f r : List (Nat × Nat)} (M : Mk l f r) {i : Nat} (h1 : cov f i) (h2 : cov r i) : False := by
  have a := (M.m1 i).mpr h1
  have b := (M.m2 i).mpr h2
  unfold at1 at a b
  rw [a] at b
  exact absurd (Option.some.inj b) (by decide)
theorem Mk.lt1 {l : List Int} {f r : List (Nat × Nat)} (M : Mk l f r) {i : Nat} (h1 : cov f i) : i < l.length := (List.getElem?_eq_some_iff.mp ((M.m1 i).mpr h1)).1
theorem Mk.lt2 {l : List Int} {f r : List (Nat × Nat)} (M : Mk l f r) {i : Nat} (h1 : cov r i) : i < l.length := (List.getElem?_eq_some_iff.mp ((M.m2 i).mpr h1)).1
theorem Mk.come {l : List Int} {f r : List (Nat × Nat)} (M : Mk l f r) {p n : Nat} (hn : 0 < n) (hl : p + n ≤ l.length) (h0 : ∀ i, p ≤ i → i < p + n → ¬ cov f i ∧ ¬ cov r i) : Mk (setM l p n 1) (Kg45.joined f (p, n)) r := by
  obtain ⟨a, b⟩ := joined_ok (r := (p, n)) M.can hn (Nat.zero_le _) fun i i1 i2 => (h0 i i1 i2).1
  refine ⟨a, M.dis, fun i => ?_, fun i => ?_, set3 (.inr (.inl rfl)) M.m3⟩
  · rw [at1_set hl, b i]
    show _ ↔ cov f i ∨ (p ≤ i ∧ i < p + n)
    by_cases c : p ≤ i ∧ i < p + n
    · rw [if_pos c]
      exact ⟨fun _ => .inr c, fun _ => rfl⟩
    · rw [if_neg c, M.m1 i]
      exact ⟨.inl, fun h => h.elim id fun q => absurd q c⟩
  · rw [at1_set hl]
    by_cases c : p ≤ i ∧ i < p + n
    · rw [if_pos c]
      exact ⟨fun h => absurd h (by decide), fun h => absurd h (h0 i c.1 c.2).2⟩
    · rw [if_neg c, M.m2 i]
theorem Mk.go {l : List Int} {f r : List (Nat × Nat)} (M : Mk l f r) {p n : Nat} (hn : 0 < n) (hc : allCov f p n) : Mk (setM l p n 0) (Kg45.without f p n) r := by
  have hl : p + n ≤ l.length := by
    have := M.lt1 (hc (p + n - 1) (by omega) (by omega))
    omega
  obtain ⟨a, b⟩ := without_ok M.can hn (canon_in M.can hn hc)
  refine ⟨a, M.dis, fun i => ?_, fun i => ?_, set3 (.inl rfl) M.m3⟩
  · rw [at1_set hl, b i]
    by_cases c : p ≤ i ∧ i < p + n
    · rw [if_pos c]
      exact ⟨fun h => absurd h (by decide), fun h => absurd c h.2⟩
    · rw [if_neg c, M.m1 i]
      exact ⟨fun h => ⟨h, c⟩, fun h => h.1⟩
  · rw [at1_set hl]
    by_cases c : p ≤ i ∧ i < p + n
    · rw [if_pos c]
      exact ⟨fun h => absurd h (by decide), fun h => (M.apart (hc i c.1 c.2) h).elim⟩
    · rw [if_neg c, M.m2 i]
theorem Mk.take {l : List Int} {f : List (Nat × Nat)} {rs : List Kg45.Run} (M : Mk l f (rr rs)) {p n m : Nat} {bs : List (Nat × Nat)} (hn : 0 < n) (hc : allCov f p n) : Mk (setM l p n 2) (Kg45.without f p n) (rr (Kg45.insert rs ⟨p, n, m, bs⟩)) ∧ (Kg45.insert rs ⟨p, n, m, bs⟩).Perm (⟨p, n, m, bs⟩ :: rs) := by
  have hl : p + n ≤ l.length := by
    have := M.lt1 (hc (p + n - 1) (by omega) (by omega))
    omega
  obtain ⟨a, b⟩ := without_ok M.can hn (canon_in M.can hn hc)
  obtain ⟨d, e⟩ := insert_ok (r := ⟨p, n, m, bs⟩) M.dis hn (Nat.zero_le _) fun i i1 i2 q => M.apart (hc i i1 i2) q
  have hcv : ∀ i, cov (rr (Kg45.insert rs ⟨p, n, m, bs⟩)) i ↔ (p ≤ i ∧ i < p + n) ∨ cov (rr rs) i := fun i => by
    have q := cov_perm (e.map fun (r : Kg45.Run) => (r.first, r.pages)) i
    rw [List.map_cons, cov_cons] at q
    exact q
  refine ⟨⟨a, d, fun i => ?_, fun i => ?_, set3 (.inr (.inr rfl)) M.m3⟩, e⟩
  · rw [at1_set hl, b i]
    by_cases c : p ≤ i ∧ i < p + n
    · rw [if_pos c]
      exact ⟨fun h => absurd h (by decide), fun h => absurd c h.2⟩
    · rw [if_neg c, M.m1 i]
      exact ⟨fun h => ⟨h, c⟩, fun h => h.1⟩
  · rw [at1_set hl, hcv i]
    by_cases c : p ≤ i ∧ i < p + n
    · rw [if_pos c]
      exact ⟨fun _ => .inl c, fun _ => rfl⟩
    · rw [if_neg c, M.m2 i]
      exact ⟨.inr, fun h => h.elim (fun q => absurd q c) id⟩
theorem cov_less {rs : List Kg45.Run} {r : Kg45.Run} (hd : Dis 0 (rr rs)) (hr : r ∈ rs) (i : Nat) : cov (rr (rs.filter fun x => x.first != r.first)) i ↔ cov (rr rs) i ∧ ¬ (r.first ≤ i ∧ i < r.first + r.pages) := by
  constructor
  · rintro ⟨y, hy, h1, h2⟩
    obtain ⟨x, hx, rfl⟩ := List.mem_map.mp hy
    obtain ⟨hx1, hx2⟩ := List.mem_filter.mp hx
    refine ⟨⟨_, List.mem_map.mpr ⟨x, hx1, rfl⟩, h1, h2⟩, fun c => ?_⟩
    have e := dis_same hd (x.first, x.pages) (List.mem_map.mpr ⟨x, hx1, rfl⟩) (r.first, r.pages) (List.mem_map.mpr ⟨r, hr, rfl⟩) i h1 h2 c.1 c.2
    have e1 : x.first = r.first := congrArg Prod.fst e
    rw [e1] at hx2
    simp at hx2
  · rintro ⟨⟨y, hy, h1, h2⟩, c⟩
    obtain ⟨x, hx, rfl⟩ := List.mem_map.mp hy
    refine ⟨_, List.mem_map.mpr ⟨x, List.mem_filter.mpr ⟨hx, ?_⟩, rfl⟩, h1, h2⟩
    by_cases e : x.first = r.first
    · have hn := dis_nodup hd
      have hxr : (x.first, x.pages) = (r.first, r.pages) := dis_same hd _ (List.mem_map.mpr ⟨x, hx, rfl⟩) _ (List.mem_map.mpr ⟨r, hr, rfl⟩) x.first (Nat.le_refl _) (by
        have := (dis_pos hd (x.first, x.pages) (List.mem_map.mpr ⟨x, hx, rfl⟩)).1
        show x.first < x.first + x.pages
        have : 0 < x.pages := this
        omega) (by show r.first ≤ _; omega) (by
        have := (dis_pos hd (r.first, r.pages) (List.mem_map.mpr ⟨r, hr, rfl⟩)).1
        show x.first < r.first + r.pages
        have : 0 < r.pages := this
        omega)
      have e2 : x.pages = r.pages := congrArg Prod.snd hxr
      have h1 : x.first ≤ i := h1
      have h2 : i < x.first + x.pages := h2
      omega
    · simp [e]
theorem rr_filter (rs : List Kg45.Run) (p : Nat) : (rr (rs.filter fun x => x.first != p)).Sublist (rr rs) := List.filter_sublist.map _
theorem Mk.give {l : List Int} {f : List (Nat × Nat)} {rs : List Kg45.Run} (M : Mk l f (rr rs)) {r : Kg45.Run} (hr : r ∈ rs) : Mk (setM l r.first r.pages 1) (Kg45.joined f (r.first, r.pages)) (rr (rs.filter fun x => x.first != r.first)) := by
  have hm : (r.first, r.pages) ∈ rr rs := List.mem_map.mpr ⟨r, hr, rfl⟩
  have hn : 0 < r.pages := (dis_pos M.dis _ hm).1
  have hcr : ∀ i, r.first ≤ i → i < r.first + r.pages → cov (rr rs) i := fun i i1 i2 => ⟨_, hm, i1, i2⟩
  have hl : r.first + r.pages ≤ l.length := by
    have := M.lt2 (hcr (r.first + r.pages - 1) (by omega) (by omega))
    omega
  obtain ⟨a, b⟩ := joined_ok (r := (r.first, r.pages)) M.can hn (Nat.zero_le _) fun i i1 i2 q => M.apart q (hcr i i1 i2)
  refine ⟨a, dis_sub (rr_filter rs r.first) M.dis, fun i => ?_, fun i => ?_, set3 (.inr (.inl rfl)) M.m3⟩
  · rw [at1_set hl, b i]
    show _ ↔ cov f i ∨ (r.first ≤ i ∧ i < r.first + r.pages)
    by_cases c : r.first ≤ i ∧ i < r.first + r.pages
    · rw [if_pos c]
      exact ⟨fun _ => .inr c, fun _ => rfl⟩
    · rw [if_neg c, M.m1 i]
      exact ⟨.inl, fun h => h.elim id fun q => absurd q c⟩
  · rw [at1_set hl, cov_less M.dis hr]
    by_cases c : r.first ≤ i ∧ i < r.first + r.pages
    · rw [if_pos c]
      exact ⟨fun h => absurd h (by decide), fun h => absurd c h.2⟩
    · rw [if_neg c, M.m2 i]
      exact ⟨fun h => ⟨h, c⟩, fun h => h.1⟩
theorem owned_sum : ∀ (l : List Int), (∀ (i : Nat) (x : Int), l[i]? = some x → x = 0 ∨ x = 1 ∨ x = 2) → ownedM l = countM l 1 + countM l 2
  | [], _ => rfl
  | x :: l, h => by
    have ih := owned_sum l fun i y e => h (i + 1) y (by simpa using e)
    have hx := h 0 x rfl
    unfold ownedM countM at ih ⊢
    rw [List.filter_cons, List.filter_cons, List.filter_cons, List.length_cons]
    rcases hx with rfl | rfl | rfl
    · rw [if_pos (by decide), if_neg (by decide), if_neg (by decide), List.length_cons]
      omega
    · rw [if_neg (by decide), if_pos (by decide), if_neg (by decide), List.length_cons]
      omega
    · rw [if_neg (by decide), if_neg (by decide), if_pos (by decide), List.length_cons]
      omega
theorem count_rr (rs : List Kg45.Run) : Kg45.count (rr rs) = (rs.map Kg45.Run.pages).sum := by
  unfold Kg45.count rr
  rw [List.map_map]
  rfl
theorem Mk.count1 {l : List Int} {f r : List (Nat × Nat)} (M : Mk l f r) : countM l 1 = (Kg45.count f : Int) := countM_cov (canon_dis M.can) M.m1
theorem Mk.count2 {l : List Int} {f r : List (Nat × Nat)} (M : Mk l f r) : countM l 2 = (Kg45.count r : Int) := countM_cov M.dis M.m2
/-! ### the pages -/
structure RelP (m : MPages) (s : Kg45.State) : Prop where
  mrk : Mk m.marks s.free (rr s.runs)
  size : s.size = m.marks.length
  len : m.marks.length ≤ 16384
  chunk : m.chunk = (s.chunk : Int)
  chl : s.chunk ≤ 1024
  spare : m.spare = (s.spare : Int)
  asked : m.asked = (s.asked : Int)
  refused : m.refused = (s.refused : Int)
  came : m.came = (s.came : Int)
  went : m.went = (s.went : Int)
  most : m.most = (s.peak : Int)
  runs : m.runs.Perm (s.runs.map fun r => ((r.first : Int), (r.pages : Int)))
  mark : ∀ r ∈ s.runs, r.mark = 4
theorem RelP.own {m : MPages} {s : Kg45.State} (R : RelP m s) : ownedM m.marks = (s.pages : Int) := by
  rw [owned_sum _ R.mrk.m3, R.mrk.count1, R.mrk.count2, count_rr]
  unfold Kg45.State.pages
  omega
theorem setMarks_eq (m : MPages) (f n : Nat) (k : Int) (h : f + n ≤ m.marks.length) : m.setMarks (f : Int) (n : Int) k = some { m with marks := setM m.marks f n k } := by
  unfold MPages.setMarks
  rw [if_pos ⟨by omega, by omega, by omega⟩]
  rfl
theorem touches_iff (p n : Nat) (x : Nat × Nat) (hn : 0 < n) (hx : 0 < x.2) : Kg45.touches (p, n) x = true ↔ ∃ i, p ≤ i ∧ i < p + n ∧ x.1 ≤ i ∧ i < x.1 + x.2 := by
  unfold Kg45.touches
  rw [Bool.and_eq_true, decide_eq_true_eq, decide_eq_true_eq]
  show p < x.1 + x.2 ∧ x.1 < p + n ↔ _
  constructor
  · rintro ⟨a, b⟩
    exact ⟨max p x.1, by omega, by omega, by omega, by omega⟩
  · rintro ⟨i, a, b, c, d⟩
    omega
theorem owns_iff {m : MPages} {s : Kg45.State} (R : RelP m s) (p n : Nat) (hn : 0 < n) : s.owns p n = true ↔ ∃ i, p ≤ i ∧ i < p + n ∧ (cov s.free i ∨ cov (rr s.runs) i) := by
  unfold Kg45.State.owns
  rw [Bool.or_eq_true, List.any_eq_true, List.any_eq_true]
  constructor
  · rintro (⟨x, hx, h⟩ | ⟨x, hx, h⟩)
    · obtain ⟨i, a, b, c, d⟩ := (touches_iff p n x hn (canon_pos R.mrk.can x hx).1).mp h
      exact ⟨i, a, b, .inl ⟨x, hx, c, d⟩⟩
    · have hm : (x.first, x.pages) ∈ rr s.runs := List.mem_map.mpr ⟨x, hx, rfl⟩
      obtain ⟨i, a, b, c, d⟩ := (touches_iff p n (x.first, x.pages) hn (dis_pos R.mrk.dis _ hm).1).mp h
      exact ⟨i, a, b, .inr ⟨_, hm, c, d⟩⟩
  · rintro ⟨i, a, b, ⟨x, hx, c, d⟩ | ⟨x, hx, c, d⟩⟩
    · exact .inl ⟨x, hx, (touches_iff p n x hn (canon_pos R.mrk.can x hx).1).mpr ⟨i, a, b, c, d⟩⟩
    · obtain ⟨y, hy, rfl⟩ := List.mem_map.mp hx
      exact .inr ⟨y, hy, (touches_iff p n (y.first, y.pages) hn (dis_pos R.mrk.dis _ hx).1).mpr ⟨i, a, b, c, d⟩⟩
theorem mayCome_iff {m : MPages} {s : Kg45.State} (R : RelP m s) (z : Int) (n : Nat) (hn : 0 < n) : mayCome m.marks z (n : Int) = true ↔ ¬ (z < 0 ∨ (s.size : Int) < z + n ∨ s.owns z.toNat n = true) := by
  unfold mayCome
  by_cases c : z < 0 ∨ (m.marks.length : Int) < z + n
  · rw [if_pos c]
    constructor
    · intro h
      cases h
    · intro h
      refine absurd ?_ h
      rcases c with c | c
      · exact .inl c
      · exact .inr (.inl (by rw [R.size]; exact c))
  rw [if_neg c, List.all_eq_true, owns_iff R _ _ hn, R.size]
  have hz : 0 ≤ z := by omega
  obtain ⟨k, rfl⟩ : ∃ k : Nat, z = (k : Int) := ⟨z.toNat, by omega⟩
  rw [Int.toNat_natCast, Int.toNat_natCast]
  have hkn : k + n ≤ m.marks.length := by omega
  constructor
  · intro h
    rintro (q | q | ⟨i, a, b, q⟩)
    · exact c (.inl q)
    · exact c (.inr q)
    · have hi : i < m.marks.length := by omega
      have hm : m.marks[i] ∈ (m.marks.drop k).take n := by
        rw [List.mem_take_iff_getElem]
        refine ⟨i - k, by rw [List.length_drop]; omega, ?_⟩
        rw [List.getElem_drop]
        congr 1
        omega
      have h0 : m.marks[i] = 0 := of_decide_eq_true (h _ hm)
      have hget := List.getElem?_eq_getElem hi
      rw [h0] at hget
      rcases q with q | q
      · have := (R.mrk.m1 i).mpr q
        unfold at1 at this
        rw [hget] at this
        exact absurd (Option.some.inj this) (by decide)
      · have := (R.mrk.m2 i).mpr q
        unfold at1 at this
        rw [hget] at this
        exact absurd (Option.some.inj this) (by decide)
  · intro h x hx
    rw [List.mem_take_iff_getElem] at hx
    obtain ⟨j, hj, e⟩ := hx
    rw [List.length_drop] at hj
    rw [List.getElem_drop] at e
    have hi : k + j < m.marks.length := by omega
    have hget : m.marks[k + j]? = some x := by rw [List.getElem?_eq_getElem hi, e]
    rcases R.mrk.m3 _ _ hget with rfl | rfl | rfl
    · rfl
    · exact absurd (.inr (.inr ⟨k + j, by omega, by omega, .inl ((R.mrk.m1 _).mp hget)⟩)) h
    · exact absurd (.inr (.inr ⟨k + j, by omega, by omega, .inr ((R.mrk.m2 _).mp hget)⟩)) h
end GK
end
section
set_option linter.all false
namespace GK
theorem ask_sim {A : MAsks} {m : MPages} {s : Kg45.State} {n : Nat} {k : Kg45.State → Bool → Kg45.Prog Kg45.Ans} (R : RelP m s) (hn : 0 < n) (hn2 : n ≤ 1000000) (hb : (fin o45 A (Kg45.more s n k)).2.2.length ≤ LIM) :
    ∃ m' s' b, m.ask A (n : Int) = some (A.add [1, (n : Int)], m', b) ∧ RelP m' s' ∧ s'.runs = s.runs ∧ (b = false → s'.free = s.free) ∧ m'.chunk = m.chunk ∧ fin o45 A (Kg45.more s n k) = fin o45 (A.add [1, (n : Int)]) (k s' b) := by
  unfold Kg45.more at hb ⊢
  rw [fin_ask] at hb ⊢
  have hroom := fin_room hb
  unfold MPages.ask
  rw [if_neg (by omega), more_eq _ hroom]
  show ∃ m' s' b, (if mayCome m.marks A.nxt (n : Int) = true then _ else _) = _ ∧ _
  have hmay := mayCome_iff R A.nxt n hn
  by_cases c : A.nxt < 0 ∨ (s.size : Int) < A.nxt + n ∨ s.owns A.nxt.toNat n = true
  · have hm : ¬ mayCome m.marks A.nxt (n : Int) = true := fun q => hmay.mp q c
    rw [if_neg hm]
    refine ⟨_, { s with asked := s.asked + 1, refused := s.refused + 1 }, false, rfl, ⟨R.mrk, R.size, R.len, R.chunk, R.chl, R.spare, ?_, ?_, R.came, R.went, R.most, R.runs, R.mark⟩, rfl, fun _ => rfl, rfl, ?_⟩
    · show m.asked + 1 = ((s.asked + 1 : Nat) : Int)
      rw [R.asked]
      omega
    · show m.refused + 1 = ((s.refused + 1 : Nat) : Int)
      rw [R.refused]
      omega
    · show fin o45 _ (if A.nxt < 0 ∨ (s.size : Int) < A.nxt + n ∨ s.owns A.nxt.toNat n = true then _ else _) = _
      rw [if_pos c]
      rfl
  · have hm : mayCome m.marks A.nxt (n : Int) = true := hmay.mpr c
    rw [if_pos hm]
    have hz : 0 ≤ A.nxt := by omega
    obtain ⟨z, ez⟩ : ∃ z : Nat, A.nxt = (z : Int) := ⟨A.nxt.toNat, by omega⟩
    have hlen : z + n ≤ m.marks.length := by
      rw [← R.size]
      omega
    have hno : ∀ i, z ≤ i → i < z + n → ¬ cov s.free i ∧ ¬ cov (rr s.runs) i := fun i i1 i2 => by
      have q : ¬ s.owns A.nxt.toNat n = true := fun q => c (.inr (.inr q))
      rw [owns_iff R _ _ hn, ez, Int.toNat_natCast] at q
      exact ⟨fun h => q ⟨i, i1, i2, .inl h⟩, fun h => q ⟨i, i1, i2, .inr h⟩⟩
    have M := R.mrk.come hn hlen hno
    have e1 : ({ m with asked := m.asked + 1 } : MPages).setMarks A.nxt (n : Int) 1 = some { m with asked := m.asked + 1, marks := setM m.marks z n 1 } := by
      rw [ez]
      exact setMarks_eq _ z n 1 hlen
    rw [e1]
    let u : Kg45.State := { s with asked := s.asked + 1, came := s.came + n, free := Kg45.joined s.free (z, n) }
    have eown : ownedM (setM m.marks z n 1) = (u.pages : Int) := by
      rw [owned_sum _ M.m3, M.count1, M.count2, count_rr]
      show _ = ((Kg45.count (Kg45.joined s.free (z, n)) + (s.runs.map Kg45.Run.pages).sum : Nat) : Int)
      omega
    refine ⟨_, { u with peak := max u.peak u.pages }, true, rfl, ⟨M, ?_, ?_, R.chunk, R.chl, R.spare, ?_, R.refused, ?_, R.went, ?_, R.runs, R.mark⟩, rfl, fun h => (by cases h), rfl, ?_⟩
    · show s.size = (setM m.marks z n 1).length
      rw [setM_length]
      exact R.size
    · show (setM m.marks z n 1).length ≤ 16384
      rw [setM_length]
      exact R.len
    · show m.asked + 1 = ((s.asked + 1 : Nat) : Int)
      rw [R.asked]
      omega
    · show m.came + (n : Int) = ((s.came + n : Nat) : Int)
      rw [R.came]
      omega
    · show (if m.most < ownedM (setM m.marks z n 1) then ownedM (setM m.marks z n 1) else m.most) = ((max s.peak u.pages : Nat) : Int)
      rw [eown, R.most]
      split <;> omega
    · show fin o45 _ (if A.nxt < 0 ∨ (s.size : Int) < A.nxt + n ∨ s.owns A.nxt.toNat n = true then _ else _) = _
      rw [if_neg c]
      show fin o45 _ (k { ({ s with asked := s.asked + 1, came := s.came + n, free := Kg45.joined s.free (A.nxt.toNat, n) } : Kg45.State) with peak := _ } true) = _
      rw [ez, Int.toNat_natCast]
      rfl
theorem max_if (a b : Nat) : (if (a : Int) < (b : Int) then (b : Int) else (a : Int)) = ((max a b : Nat) : Int) := by
  split <;> omega
/-- a place is looked for, twice if need be -/
theorem place_sim {A : MAsks} {m : MPages} {s : Kg45.State} {n : Nat} (R : RelP m s) (hn : 0 < n) (hn2 : n ≤ 16384) :
    let P : Kg45.Prog Kg45.Ans := match s.taken n 1 4 with
      | some x => .done (some x.1) (Kg45.num x.2)
      | none => Kg45.seek n 1 4 (Kg45.wants s.chunk n 0) s
    (fin o45 A P).2.2.length ≤ LIM → ∃ A' m' s', m.placeFor A (n : Int) = some (A', m', (Kg45.fits s'.free n 1).map fun (p : Nat) => (p : Int)) ∧ A'.ans = A.ans ∧ RelP m' s' ∧ s'.runs = s.runs ∧
      fin o45 A P = match s'.taken n 1 4 with
        | some x => (some x.1, Kg45.num x.2, A'.rows)
        | none => (some s', Kg45.num (-7), A'.rows) := by
  intro P hb
  have hf := fun (m : MPages) (s : Kg45.State) (R : RelP m s) => freePlace_fits R.mrk.can R.mrk.m1 hn
  unfold MPages.placeFor
  rw [hf m s R]
  cases e : Kg45.fits s.free n 1 with
  | some p =>
    refine ⟨A, m, s, by rw [e]; rfl, rfl, R, rfl, ?_⟩
    have ep : P = (match s.taken n 1 4 with
      | some x => .done (some x.1) (Kg45.num x.2)
      | none => Kg45.seek n 1 4 (Kg45.wants s.chunk n 0) s) := rfl
    rw [ep]
    unfold Kg45.State.taken
    rw [e]
    exact fin_done _ _ _ _
  | none =>
    have ep : P = Kg45.seek n 1 4 (Kg45.wants s.chunk n 0) s := by
      show (match s.taken n 1 4 with
        | some x => Given.Prog.done (some x.1) (Kg45.num x.2)
        | none => Kg45.seek n 1 4 (Kg45.wants s.chunk n 0) s) = _
      unfold Kg45.State.taken
      rw [e]
      rfl
    rw [ep] at hb ⊢
    have ew : Kg45.wants s.chunk n 0 = max s.chunk n :: (if n < s.chunk then [n] else []) := by
      unfold Kg45.wants
      rw [Nat.pow_zero, Nat.add_sub_cancel, if_pos rfl, List.append_nil]
      rfl
    rw [ew] at hb ⊢
    have hch := R.chl
    unfold Kg45.seek at hb ⊢
    show ∃ A' m' s', ((m.ask A (if m.chunk < (n : Int) then (n : Int) else m.chunk)).bind fun x => _) = _ ∧ _
    rw [R.chunk, max_if]
    obtain ⟨m1, s1, b, h1, R1, hr1, hfr1, hc1, hfin1⟩ := ask_sim R (show 0 < max s.chunk n by omega) (by omega) hb
    rw [hfin1] at hb ⊢
    rw [h1]
    have hc2 : m1.chunk = (s.chunk : Int) := by rw [hc1, R.chunk]
    show ∃ A' m' s', (if b = false ∧ (n : Int) < m1.chunk then _ else _) = _ ∧ _
    rw [hc2]
    cases b with
    | true =>
      rw [if_neg (fun h => by cases h.1)]
      refine ⟨A.add [1, ((max s.chunk n : Nat) : Int)], m1, s1, by rw [hf m1 s1 R1], rfl, R1, hr1, ?_⟩
      show fin o45 _ (match s1.taken n 1 4 with
        | some x => Given.Prog.done (some x.1) (Kg45.num x.2)
        | none => Given.Prog.done (some s1) (Kg45.num (-7))) = _
      cases s1.taken n 1 4 with
      | some x => exact fin_done _ _ _ _
      | none => exact fin_done _ _ _ _
    | false =>
      have e1 : Kg45.fits s1.free n 1 = none := by rw [hfr1 rfl, e]
      have t1 : s1.taken n 1 4 = none := by
        unfold Kg45.State.taken
        rw [e1]
        rfl
      by_cases c : n < s.chunk
      · rw [if_pos ⟨rfl, by omega⟩]
        rw [if_pos c] at hb ⊢
        have hb : (fin o45 (A.add [1, ((max s.chunk n : Nat) : Int)]) (Kg45.seek n 1 4 [n] s1)).2.2.length ≤ LIM := hb
        show ∃ A' m' s', ((m1.ask (A.add [1, ((max s.chunk n : Nat) : Int)]) (n : Int)).bind fun y => _) = _ ∧ _ ∧ _ ∧ _ ∧ fin o45 (A.add [1, ((max s.chunk n : Nat) : Int)]) (Kg45.seek n 1 4 [n] s1) = _
        unfold Kg45.seek at hb ⊢
        obtain ⟨m2, s2, b2, h2, R2, hr2, hfr2, hc3, hfin2⟩ := ask_sim R1 hn (by omega) hb
        rw [hfin2, h2]
        refine ⟨(A.add [1, ((max s.chunk n : Nat) : Int)]).add [1, (n : Int)], m2, s2, by show some _ = _; rw [hf m2 s2 R2], rfl, R2, by rw [hr2, hr1], ?_⟩
        cases b2 with
        | true =>
          show fin o45 _ (match s2.taken n 1 4 with
            | some x => Given.Prog.done (some x.1) (Kg45.num x.2)
            | none => Given.Prog.done (some s2) (Kg45.num (-7))) = _
          cases s2.taken n 1 4 with
          | some x => exact fin_done _ _ _ _
          | none => exact fin_done _ _ _ _
        | false =>
          have t2 : s2.taken n 1 4 = none := by
            unfold Kg45.State.taken
            rw [hfr2 rfl, e1]
            rfl
          rw [t2]
          exact fin_done _ _ _ _
      · rw [if_neg (fun h => c (by omega))]
        rw [if_neg c] at hb ⊢
        refine ⟨A.add [1, ((max s.chunk n : Nat) : Int)], m1, s1, by rw [hf m1 s1 R1], rfl, R1, hr1, ?_⟩
        rw [t1]
        exact fin_done _ _ _ _
theorem runs_len {m : MPages} {s : Kg45.State} (R : RelP m s) : m.runs.length ≤ 16384 := by
  have h : ∀ {l : List (Nat × Nat)} {lo N : Nat}, Dis lo l → lo ≤ N → (∀ i, cov l i → i < N) → lo + l.length ≤ N := by
    intro l
    induction l with
    | nil =>
      intro lo N _ h _
      exact h
    | cons x l ih =>
      intro lo N hd hlo hc
      obtain ⟨h1, h2, h3⟩ := hd
      have hx := hc (x.1 + x.2 - 1) ((cov_cons _ _ _).mpr (.inl ⟨by omega, by omega⟩))
      have := ih h3 (N := N) (by omega) fun i q => hc i ((cov_cons _ _ _).mpr (.inr q))
      rw [List.length_cons]
      omega
  have := h R.mrk.dis (Nat.zero_le _) (fun i q => R.mrk.lt2 q)
  have e := R.runs.length_eq
  rw [List.length_map] at e
  unfold rr at this
  rw [List.length_map] at this
  have := R.len
  omega
/-- pages are taken -/
theorem take_sim {A : MAsks} {m : MPages} {s : Kg45.State} {n : Nat} (R : RelP m s) (hn : 0 < n) (hn2 : n ≤ 16384) (hb : (fin o45 A (Kg45.spec (some s) (.take (n : Int) 0 4))).2.2.length ≤ LIM) :
    ∃ A' m' s' r, m.take A (n : Int) = some (A', m', r) ∧ A'.ans = A.ans ∧ RelP m' s' ∧ ((r = none ∧ s'.runs = s.runs ∧ fin o45 A (Kg45.spec (some s) (.take (n : Int) 0 4)) = (some s', Kg45.num (-7), A'.rows)) ∨
      (∃ p : Nat, r = some (p : Int) ∧ s'.runs = Kg45.insert s.runs ⟨p, n, 4, []⟩ ∧ (∀ i, p ≤ i → i < p + n → ¬ cov (rr s.runs) i) ∧ p + n ≤ 16384 ∧ fin o45 A (Kg45.spec (some s) (.take (n : Int) 0 4)) = (some s', Kg45.num (p : Nat), A'.rows))) := by
  have es : Kg45.spec (some s) (.take (n : Int) 0 4) = (match s.taken n 1 4 with
      | some x => .done (some x.1) (Kg45.num x.2)
      | none => Kg45.seek n 1 4 (Kg45.wants s.chunk n 0) s) := by
    show (if (Kg45.within (n : Int) 1 16384 && (Kg45.within 0 0 10 && Kg45.within 4 0 7)) = false then _ else _) = _
    have hw : Kg45.within (n : Int) 1 16384 = true := by
      unfold Kg45.within
      rw [decide_eq_true (show (1 : Int) ≤ (n : Int) by omega), decide_eq_true (show (n : Int) ≤ 16384 by omega)]
      rfl
    rw [hw, if_neg (by decide)]
    rfl
  rw [es] at hb ⊢
  obtain ⟨A1, m1, s1, h1, ha1, R1, hr1, hfin⟩ := place_sim R hn hn2 hb
  rw [hfin]
  unfold MPages.take
  rw [h1]
  cases e : Kg45.fits s1.free n 1 with
  | none =>
    have t1 : s1.taken n 1 4 = none := by
      unfold Kg45.State.taken
      rw [e]
      rfl
    rw [t1]
    exact ⟨A1, m1, s1, none, rfl, ha1, R1, .inl ⟨rfl, hr1, rfl⟩⟩
  | some p =>
    have t1 : s1.taken n 1 4 = some ({ s1 with free := Kg45.without s1.free p n, runs := Kg45.insert s1.runs ⟨p, n, 4, []⟩ }, p) := by
      unfold Kg45.State.taken
      rw [e]
      rfl
    rw [t1]
    have hall := (fits_some R1.mrk.can hn e).1
    have hlen : p + n ≤ m1.marks.length := by
      have := R1.mrk.lt1 (hall (p + n - 1) (by omega) (by omega))
      omega
    obtain ⟨M, hp⟩ := R1.mrk.take (m := 4) (bs := []) hn hall
    have hl1 := R1.len
    have hrl := runs_len R1
    have hnew : look m1.runs (p : Int) = none := by
      refine key_none_look fun h => ?_
      obtain ⟨q, hq, eq⟩ := List.mem_map.mp h
      obtain ⟨x, hx, rfl⟩ := List.mem_map.mp (R1.runs.mem_iff.mp hq)
      have eq : (x.first : Int) = (p : Int) := eq
      have hxm : (x.first, x.pages) ∈ rr s1.runs := List.mem_map.mpr ⟨x, hx, rfl⟩
      have hxp : 0 < x.pages := (dis_pos R1.mrk.dis _ hxm).1
      exact R1.mrk.apart (hall p (Nat.le_refl _) (by omega)) ⟨_, hxm, by show x.first ≤ p; omega, by show p < x.first + x.pages; omega⟩
    refine ⟨A1, { m1 with marks := setM m1.marks p n 2, runs := put m1.runs (p : Int) (n : Int) }, _, some (p : Int), ?_, ha1, ?_, .inr ⟨p, rfl, ?_, ?_, by omega, rfl⟩⟩
    · show ((m1.setMarks (p : Int) (n : Int) 2).bind fun m2 => if m2.runs.length < LIM then some (A1, { m2 with runs := put m2.runs (p : Int) (n : Int) }, some (p : Int)) else none) = _
      rw [setMarks_eq m1 p n 2 hlen]
      show (if m1.runs.length < LIM then _ else _) = _
      rw [if_pos (Nat.lt_of_le_of_lt hrl (by decide))]
    · refine ⟨M, ?_, ?_, R1.chunk, R1.chl, R1.spare, R1.asked, R1.refused, R1.came, R1.went, R1.most, ?_, ?_⟩
      · show s1.size = (setM m1.marks p n 2).length
        rw [setM_length]
        exact R1.size
      · show (setM m1.marks p n 2).length ≤ 16384
        rw [setM_length]
        exact R1.len
      · show (put m1.runs (p : Int) (n : Int)).Perm _
        have ep : put m1.runs (p : Int) (n : Int) = m1.runs ++ [((p : Int), (n : Int))] := by
          unfold put
          rw [if_neg]
          intro h
          obtain ⟨q, hq, eq⟩ := List.any_eq_true.mp h
          obtain ⟨v, ev⟩ := look_of_key (List.mem_map.mpr ⟨q, hq, of_decide_eq_true eq⟩)
          rw [hnew] at ev
          cases ev
        rw [ep]
        refine (List.perm_append_comm).trans ?_
        refine List.Perm.trans ?_ (hp.map fun (r : Kg45.Run) => ((r.first : Int), (r.pages : Int))).symm
        exact R1.runs.cons _
      · intro r hr
        rcases List.mem_cons.mp (hp.mem_iff.mp hr) with rfl | h
        · rfl
        · exact R1.mark r h
    · show Kg45.insert s1.runs _ = _
      rw [hr1]
    · intro i i1 i2 q
      rw [← hr1] at q
      exact R1.mrk.apart (hall i i1 i2) q
end GK
end
section
set_option linter.all false
namespace GK
theorem without_count : ∀ {l : List (Nat × Nat)} {lo p n : Nat}, Canon lo l → 0 < n → (∃ x ∈ l, x.1 ≤ p ∧ p + n ≤ x.1 + x.2) → Kg45.count (Kg45.without l p n) + n = Kg45.count l
  | [], _, _, _, _, _, ⟨_, h, _⟩ => by cases h
  | x :: l, lo, p, n, ⟨h1, h2, h3⟩, hn, ⟨y, hy, hy1, hy2⟩ => by
    by_cases c : x.1 ≤ p ∧ p + n ≤ x.1 + x.2
    · have e : Kg45.without (x :: l) p n = ((if x.1 < p then [(x.1, p - x.1)] else []) ++ (if p + n < x.1 + x.2 then [(p + n, x.1 + x.2 - (p + n))] else [])) ++ l := by
        have ih : Kg45.without l p n = l := without_none fun z hz => by
          have := (canon_pos h3 z hz).2
          omega
        unfold Kg45.without at ih ⊢
        rw [List.flatMap_cons, ih, if_pos c]
      rw [e]
      unfold Kg45.count
      rw [List.map_append, List.sum_append, List.map_append, List.sum_append, List.map_cons, List.sum_cons]
      by_cases c1 : x.1 < p
      · rw [if_pos c1]
        by_cases c2 : p + n < x.1 + x.2
        · rw [if_pos c2]
          simp only [List.map_cons, List.map_nil, List.sum_cons, List.sum_nil]
          omega
        · rw [if_neg c2]
          simp only [List.map_cons, List.map_nil, List.sum_cons, List.sum_nil]
          omega
      · rw [if_neg c1]
        by_cases c2 : p + n < x.1 + x.2
        · rw [if_pos c2]
          simp only [List.map_cons, List.map_nil, List.sum_cons, List.sum_nil]
          omega
        · rw [if_neg c2]
          simp only [List.map_cons, List.map_nil, List.sum_cons, List.sum_nil]
          omega
    · have e : Kg45.without (x :: l) p n = x :: Kg45.without l p n := by
        unfold Kg45.without
        rw [List.flatMap_cons, if_neg c]
        rfl
      have hyl : y ∈ l := by
        rcases List.mem_cons.mp hy with rfl | h
        · exact absurd ⟨hy1, hy2⟩ c
        · exact h
      have ih := without_count (lo := x.1 + x.2 + 1) (p := p) h3 hn ⟨y, hyl, hy1, hy2⟩
      rw [e]
      unfold Kg45.count at ih ⊢
      rw [List.map_cons, List.sum_cons, List.map_cons, List.sum_cons]
      omega
theorem without_length : ∀ {l : List (Nat × Nat)} {lo : Nat}, Canon lo l → ∀ x ∈ l, (Kg45.without l x.1 x.2).length + 1 = l.length
  | y :: l, lo, ⟨h1, h2, h3⟩, x, hx => by
    by_cases c : y = x
    · subst c
      have ih : Kg45.without l y.1 y.2 = l := without_none fun z hz => by
        have := (canon_pos h3 z hz).2
        omega
      unfold Kg45.without at ih ⊢
      rw [List.flatMap_cons, ih, if_pos ⟨Nat.le_refl _, Nat.le_refl _⟩, if_neg (Nat.lt_irrefl _), if_neg (Nat.lt_irrefl _)]
      rfl
    · have hxl : x ∈ l := by
        rcases List.mem_cons.mp hx with h | h
        · exact absurd h.symm c
        · exact h
      have hp := canon_pos h3 x hxl
      have e : Kg45.without (y :: l) x.1 x.2 = y :: Kg45.without l x.1 x.2 := by
        unfold Kg45.without
        rw [List.flatMap_cons, if_neg (by omega)]
        rfl
      rw [e, List.length_cons, List.length_cons, without_length h3 x hxl]
theorem trim_sim (k : Nat) (f : Kg45.State → Nat → Kg45.Prog Kg45.Ans) : ∀ (g : Nat) (A : MAsks) (m : MPages) (s : Kg45.State) (n : Nat) (left : Int) (fuel : Nat), RelP m s → left = countM m.marks 1 - (k : Int) → (left ≤ 0 ∨ s.free.length < g) → left.toNat ≤ fuel →
    (fin o45 A (Kg45.trim k g s n f)).2.2.length ≤ LIM → ∃ A' m' s' n', trimL fuel A m left = some (A', m') ∧ A'.ans = A.ans ∧ RelP m' s' ∧ s'.runs = s.runs ∧ fin o45 A (Kg45.trim k g s n f) = fin o45 A' (f s' n') := by
  intro g
  induction g with
  | zero =>
    intro A m s n left fuel R hl hg hf hb
    have h0 : ¬ 0 < left := by omega
    refine ⟨A, m, s, n, ?_, rfl, R, rfl, rfl⟩
    cases fuel with
    | zero => exact if_neg h0
    | succ fuel => exact if_neg h0
  | succ g ih =>
    intro A m s n left fuel R hl hg hf hb
    have hcnt := R.mrk.count1
    unfold Kg45.trim at hb ⊢
    by_cases h0 : 0 < left
    · cases e : s.free.getLast? with
      | none =>
        have : s.free = [] := List.getLast?_eq_none_iff.mp e
        rw [this] at hcnt
        have : Kg45.count [] = 0 := rfl
        omega
      | some x =>
        rw [e] at hb
        have hover : ¬ (Kg45.count s.free - k = 0) := by omega
        have hb : (fin o45 A (if Kg45.count s.free - k = 0 then f s n else _)).2.2.length ≤ LIM := hb
        rw [if_neg hover] at hb
        show ∃ A' m' s' n', _ ∧ _ ∧ _ ∧ _ ∧ fin o45 A (if Kg45.count s.free - k = 0 then f s n else _) = _
        rw [if_neg hover]
        rw [fin_ask] at hb ⊢
        have hroom := fin_room hb
        obtain ⟨hE, hF⟩ := hi_ok R.mrk.can R.mrk.m1 e
        obtain ⟨hxl, hxm⟩ := canon_last R.mrk.can e
        have hxp := canon_pos R.mrk.can x hxm
        generalize hM : min (Kg45.count s.free - k) x.2 = M at hb ⊢
        have hM1 : 0 < M := by omega
        have hgone : goneM m.marks left = (M : Int) := by
          unfold goneM
          rw [hE, hF]
          split <;> omega
        have hbeg : beginM m.marks left = ((x.1 + x.2 - M : Nat) : Int) := by
          unfold beginM
          rw [hgone, hE, hF]
          omega
        have hall : allCov s.free (x.1 + x.2 - M) M := fun i i1 i2 => ⟨x, hxm, by omega, by omega⟩
        have hlen : x.1 + x.2 - M + M ≤ m.marks.length := by
          have := R.mrk.lt1 (hall (x.1 + x.2 - 1) (by omega) (by omega))
          omega
        have Mk' := R.mrk.go hM1 hall
        have hct := without_count R.mrk.can hM1 (canon_in R.mrk.can hM1 hall)
        let s1 : Kg45.State := { s with free := Kg45.without s.free (x.1 + x.2 - M) M, went := s.went + M }
        let m1 : MPages := { m with marks := setM m.marks (x.1 + x.2 - M) M 0, went := m.went + (M : Int) }
        have R1 : RelP m1 s1 := by
          refine ⟨Mk', ?_, ?_, R.chunk, R.chl, R.spare, R.asked, R.refused, R.came, ?_, R.most, R.runs, R.mark⟩
          · show s.size = (setM m.marks _ M 0).length
            rw [setM_length]
            exact R.size
          · show (setM m.marks _ M 0).length ≤ 16384
            rw [setM_length]
            exact R.len
          · show m.went + (M : Int) = ((s.went + M : Nat) : Int)
            rw [R.went]
            omega
        have hl1 : left - (M : Int) = countM m1.marks 1 - (k : Int) := by
          show _ = countM (setM m.marks _ M 0) 1 - (k : Int)
          rw [Mk'.count1]
          omega
        have hb1 : (fin o45 (A.add [2, ((x.1 + x.2 - M : Nat) : Int), (M : Int)]) (Kg45.trim k g s1 (n + M) f)).2.2.length ≤ LIM := hb
        have hg1 : left - (M : Int) ≤ 0 ∨ s1.free.length < g := by
          by_cases c : M = Kg45.count s.free - k
          · exact .inl (by omega)
          · right
            have eM : M = x.2 := by omega
            have := without_length R.mrk.can x hxm
            show (Kg45.without s.free (x.1 + x.2 - M) M).length < g
            rw [eM, Nat.add_sub_cancel]
            omega
        cases fuel with
        | zero => omega
        | succ fuel =>
          obtain ⟨A', m', s', n', q1, q2, q3, q4, q5⟩ := ih (A.add [2, ((x.1 + x.2 - M : Nat) : Int), (M : Int)]) m1 s1 (n + M) (left - M) fuel R1 hl1 hg1 (by omega) hb1
          refine ⟨A', m', s', n', ?_, q2, q3, q4, q5⟩
          unfold trimL
          rw [if_pos h0, hbeg, hgone, setMarks_eq m _ M 0 hlen]
          show (A.less ((x.1 + x.2 - M : Nat) : Int) (M : Int)).bind _ = _
          rw [less_eq _ _ hroom]
          exact q1
    · have hov : Kg45.count s.free - k = 0 := by omega
      refine ⟨A, m, s, n, ?_, rfl, R, rfl, ?_⟩
      · cases fuel with
        | zero => exact if_neg h0
        | succ fuel => exact if_neg h0
      · cases e : s.free.getLast? with
        | none => rfl
        | some x =>
          show fin o45 A (if Kg45.count s.free - k = 0 then f s n else _) = _
          rw [if_pos hov]
/-- a run found by its first page -/
theorem run_find {s : Kg45.State} (hd : Dis 0 (rr s.runs)) {r : Kg45.Run} (hr : r ∈ s.runs) : s.run (r.first : Int) = some r := by
  have hn := dis_nodup hd
  have : ∀ {l : List Kg45.Run}, ((rr l).map (·.1)).Nodup → r ∈ l → (l.find? fun x => (x.first : Int) == (r.first : Int)) = some r := by
    intro l
    induction l with
    | nil => intro _ h; cases h
    | cons y l ih =>
      intro hn h
      rw [List.find?_cons]
      by_cases c : y.first = r.first
      · rcases List.mem_cons.mp h with rfl | h
        · simp
        · unfold rr at hn
          rw [List.map_cons, List.map_cons, List.nodup_cons] at hn
          exact absurd (List.mem_map.mpr ⟨(r.first, r.pages), List.mem_map.mpr ⟨r, h, rfl⟩, c.symm⟩) hn.1
      · have : ((y.first : Int) == (r.first : Int)) = false := by
          simp
          omega
        rw [this]
        rcases List.mem_cons.mp h with rfl | h
        · exact absurd rfl c
        · unfold rr at hn
          rw [List.map_cons, List.map_cons, List.nodup_cons] at hn
          exact ih hn.2 h
  exact this hn hr
/-- a run of pages is given up, its mark taken off -/
theorem give_sim {A : MAsks} {m : MPages} {s : Kg45.State} {r : Kg45.Run} (R : RelP m s) (hr : r ∈ s.runs) (hb : (fin o45 A (Kg45.spec (some (s.with_ { r with mark := 0 })) (.give (r.first : Int)))).2.2.length ≤ LIM) :
    ∃ A' m' s', m.give A (r.first : Int) = some (A', m') ∧ A'.ans = A.ans ∧ RelP m' s' ∧ s'.runs = s.runs.filter (fun x => x.first != r.first) ∧
      fin o45 A (Kg45.spec (some (s.with_ { r with mark := 0 })) (.give (r.first : Int))) = (some s', Kg45.num (r.pages : Int), A'.rows) := by
  let s1 := s.with_ { r with mark := 0 }
  have hrr : rr s1.runs = rr s.runs := by
    show (List.map _ (List.map _ _)) = _
    rw [List.map_map]
    refine List.map_congr_left fun x hx => ?_
    show ((if x.first = r.first then ({ r with mark := 0 } : Kg45.Run) else x).first, (if x.first = r.first then ({ r with mark := 0 } : Kg45.Run) else x).pages) = (x.first, x.pages)
    by_cases c : x.first = r.first
    · have hx2 : (x.first, x.pages) ∈ rr s.runs := List.mem_map.mpr ⟨x, hx, rfl⟩
      have hr2 : (r.first, r.pages) ∈ rr s.runs := List.mem_map.mpr ⟨r, hr, rfl⟩
      have p1 := (dis_pos R.mrk.dis _ hx2).1
      have p2 := (dis_pos R.mrk.dis _ hr2).1
      have e := dis_same R.mrk.dis _ hx2 _ hr2 x.first (Nat.le_refl _) (by show x.first < x.first + x.pages; have : 0 < x.pages := p1; omega) (by show r.first ≤ _; omega) (by show x.first < r.first + r.pages; have : 0 < r.pages := p2; omega)
      rw [if_pos c]
      exact e.symm
    · rw [if_neg c]
  have hr1 : ({ r with mark := 0 } : Kg45.Run) ∈ s1.runs := List.mem_map.mpr ⟨r, hr, if_pos rfl⟩
  have hfind : s1.run (r.first : Int) = some { r with mark := 0 } := run_find (by rw [hrr]; exact R.mrk.dis) hr1
  have hless : s1.runs.filter (fun x => x.first != r.first) = s.runs.filter (fun x => x.first != r.first) := by
    show (List.map _ _).filter _ = _
    rw [List.filter_map]
    have e : ∀ x : Kg45.Run, ((fun x : Kg45.Run => x.first != r.first) ∘ fun x => if x.first = ({ r with mark := 0 } : Kg45.Run).first then ({ r with mark := 0 } : Kg45.Run) else x) x = (x.first != r.first) := fun x => by
      show ((if x.first = r.first then ({ r with mark := 0 } : Kg45.Run) else x).first != r.first) = _
      by_cases c : x.first = r.first
      · rw [if_pos c, c]
      · rw [if_neg c]
    rw [List.filter_congr fun x _ => e x]
    conv => rhs; rw [← List.map_id (s.runs.filter fun x => x.first != r.first)]
    refine List.map_congr_left fun x hx => ?_
    have := (List.mem_filter.mp hx).2
    exact if_neg fun c => by
      have c : x.first = r.first := c
      rw [c] at this
      simp at this
  have es : Kg45.spec (some s1) (.give (r.first : Int)) = Kg45.trimmed { s with runs := s.runs.filter (fun x => x.first != r.first), free := Kg45.joined s.free (r.first, r.pages) } s.spare fun t _ => .done (some t) (Kg45.num (r.pages : Int)) := by
    show (match s1.run (r.first : Int) with
      | none => _
      | some r => _) = _
    rw [hfind]
    show (if Kg45.bit 0 4 = true then _ else Kg45.trimmed { s1.lessRun { r with mark := 0 } with free := Kg45.joined s1.free (r.first, r.pages) } s1.spare _) = _
    rw [if_neg (by decide)]
    unfold Kg45.State.lessRun
    rw [hless]
    rfl
  rw [es] at hb ⊢
  have hm : (r.first, r.pages) ∈ rr s.runs := List.mem_map.mpr ⟨r, hr, rfl⟩
  have hp : 0 < r.pages := (dis_pos R.mrk.dis _ hm).1
  have hlen : r.first + r.pages ≤ m.marks.length := by
    have := R.mrk.lt2 (i := r.first + r.pages - 1) ⟨_, hm, by show r.first ≤ _; omega, by show _ < r.first + r.pages; omega⟩
    omega
  have nd : (m.runs.map (·.1)).Nodup := by
    refine (R.runs.map (·.1)).nodup_iff.mpr ?_
    have := dis_nodup R.mrk.dis
    rw [List.map_map]
    have e : (s.runs.map ((fun p : Int × Int => p.1) ∘ fun r : Kg45.Run => ((r.first : Int), (r.pages : Int)))) = ((rr s.runs).map (·.1)).map fun (n : Nat) => (n : Int) := by
      unfold rr
      rw [List.map_map, List.map_map]
      rfl
    rw [e]
    exact this.map (fun n : Nat => (n : Int)) fun a b h hab => h (by omega)
  have hlook : look m.runs (r.first : Int) = some (r.pages : Int) := look_of_mem nd (R.runs.mem_iff.mpr (List.mem_map.mpr ⟨r, hr, rfl⟩))
  let m1 : MPages := { m with runs := del m.runs (r.first : Int), marks := setM m.marks r.first r.pages 1 }
  let s2 : Kg45.State := { s with runs := s.runs.filter (fun x => x.first != r.first), free := Kg45.joined s.free (r.first, r.pages) }
  have R1 : RelP m1 s2 := by
    refine ⟨R.mrk.give hr, ?_, ?_, R.chunk, R.chl, R.spare, R.asked, R.refused, R.came, R.went, R.most, ?_, fun x hx => R.mark x (List.mem_filter.mp hx).1⟩
    · show s.size = (setM m.marks _ _ 1).length
      rw [setM_length]
      exact R.size
    · show (setM m.marks _ _ 1).length ≤ 16384
      rw [setM_length]
      exact R.len
    · show (del m.runs (r.first : Int)).Perm _
      refine (R.runs.filter _).trans ?_
      rw [List.filter_map]
      have e : ∀ x : Kg45.Run, ((fun p : Int × Int => decide (p.1 ≠ (r.first : Int))) ∘ fun r : Kg45.Run => ((r.first : Int), (r.pages : Int))) x = (x.first != r.first) := fun x => by
        show decide ((x.first : Int) ≠ (r.first : Int)) = _
        rw [Bool.eq_iff_iff]
        simp
        omega
      rw [List.filter_congr fun x _ => e x]
  obtain ⟨A', m', s', n', q1, q2, q3, q4, q5⟩ := trim_sim s.spare (fun t _ => .done (some t) (Kg45.num (r.pages : Int))) (s2.free.length + 1) A m1 s2 0 (countM m1.marks 1 - (s.spare : Int)) (countM m1.marks 1 - (s.spare : Int)).toNat R1 rfl (.inr (Nat.lt_succ_self _)) (Nat.le_refl _) hb
  refine ⟨A', m', s', ?_, q2, q3, q4, ?_⟩
  · unfold MPages.give
    rw [hlook]
    show (({ m with runs := del m.runs (r.first : Int) } : MPages).setMarks (r.first : Int) (r.pages : Int) 1).bind _ = _
    rw [setMarks_eq { m with runs := del m.runs (r.first : Int) } r.first r.pages 1 hlen]
    show MPages.trim A m1 m1.spare = _
    unfold MPages.trim
    rw [show m1.spare = (s.spare : Int) from R.spare]
    exact q1
  · show fin o45 A (Kg45.trimmed s2 s.spare _) = _
    unfold Kg45.trimmed
    rw [q5, fin_done]
/-! #### all pages given back -/
theorem back_sim {α : Type} (p : Kg45.Prog α) : ∀ (l : List (Nat × Nat)) (A : MAsks) (h : Kg45.House), True → ∀ (f : List (Nat × Nat) → Kg45.House → Kg45.Prog α → Kg45.Prog α), (∀ h p, f [] h p = p) → (∀ x l h p, f (x :: l) h p = .ask h (.less x.1 x.2) fun _ _ => f l h p) →
    (fin o45 A (f l h p)).2.2.length ≤ LIM → ∃ A', backL A (l.map castR) = some A' ∧ A'.ans = A.ans ∧ fin o45 A (f l h p) = fin o45 A' p
  | [], A, h, _, f, f0, f1, hb => ⟨A, rfl, rfl, by rw [f0]⟩
  | x :: l, A, h, _, f, f0, f1, hb => by
    rw [f1, fin_ask] at hb
    obtain ⟨A', q1, q2, q3⟩ := back_sim p l (A.add [2, (x.1 : Int), (x.2 : Int)]) h trivial f f0 f1 hb
    refine ⟨A', ?_, q2, ?_⟩
    · show (A.less (x.1 : Int) (x.2 : Int)).bind _ = _
      rw [less_eq _ _ (fin_room hb)]
      exact q1
    · rw [f1, fin_ask]
      exact q3
theorem rows_fold : ∀ (rs : List Kg45.Run) (f : List (Nat × Nat)) (lo : Nat), Canon 0 f → Dis lo (rr rs) → (∀ i, cov f i → ¬ cov (rr rs) i) →
    Canon 0 (rs.foldl (fun l r => Kg45.joined l (r.first, r.pages)) f) ∧ ∀ i, cov (rs.foldl (fun l r => Kg45.joined l (r.first, r.pages)) f) i ↔ cov f i ∨ cov (rr rs) i
  | [], f, _, hf, _, _ => ⟨hf, fun i => by
      show cov f i ↔ cov f i ∨ cov [] i
      exact ⟨.inl, fun h => h.elim id fun q => absurd q (cov_nil i)⟩⟩
  | r :: rs, f, lo, hf, ⟨h1, h2, h3⟩, hd => by
    obtain ⟨a, b⟩ := joined_ok (r := (r.first, r.pages)) hf h2 (Nat.zero_le _) fun i i1 i2 q => hd i q ((cov_cons _ _ _).mpr (.inl ⟨i1, i2⟩))
    obtain ⟨c, d⟩ := rows_fold rs _ (r.first + r.pages) a h3 fun i q w => by
      rcases (b i).mp q with q | q
      · exact hd i q ((cov_cons _ _ _).mpr (.inr w))
      · have q1 : r.first + r.pages ≤ i := dis_ge h3 w
        have q2 : i < r.first + r.pages := q.2
        omega
    refine ⟨c, fun i => ?_⟩
    show cov (List.foldl _ _ rs) i ↔ _
    rw [d i, b i]
    show (cov f i ∨ _) ∨ cov (rr rs) i ↔ cov f i ∨ cov ((r.first, r.pages) :: rr rs) i
    rw [cov_cons, or_assoc]
theorem rows_own {m : MPages} {s : Kg45.State} (R : RelP m s) : ownRows m.marks = s.rows.map castR := by
  obtain ⟨a, b⟩ := rows_fold s.runs s.free 0 R.mrk.can R.mrk.dis fun i q w => R.mrk.apart q w
  refine ownRows_ok m.marks a fun i => ?_
  show cov s.rows i ↔ _
  rw [show cov s.rows i ↔ _ from b i]
  constructor
  · rintro (h | h)
    · exact ⟨1, (R.mrk.m1 i).mpr h, by decide⟩
    · exact ⟨2, (R.mrk.m2 i).mpr h, by decide⟩
  · rintro ⟨x, hx, h0⟩
    rcases R.mrk.m3 i x hx with rfl | rfl | rfl
    · exact absurd rfl h0
    · exact .inl ((R.mrk.m1 i).mp hx)
    · exact .inr ((R.mrk.m2 i).mp hx)
theorem sums_eq {m : MPages} {s : Kg45.State} (R : RelP m s) : m.sums = [(s.pages : Int), (Kg45.count s.free : Int), ((s.runs.map Kg45.Run.pages).sum : Int), (s.asked : Int), (s.refused : Int), (s.came : Int), (s.went : Int), (s.peak : Int)] := by
  unfold MPages.sums
  rw [R.mrk.count1, R.mrk.count2, count_rr, R.asked, R.refused, R.came, R.went, R.most]
  unfold Kg45.State.pages
  simp
theorem new_rel (size chunk spare : Nat) (h1 : size ≤ 16384) (h2 : chunk ≤ 1024) : RelP (MPages.new (size : Int) (chunk : Int) (spare : Int)) (Kg45.fresh size chunk spare) := by
  have e : (MPages.new (size : Int) (chunk : Int) (spare : Int)).marks = List.replicate size 0 := by
    show List.replicate (size : Int).toNat (0 : Int) = _
    rw [Int.toNat_natCast]
  have hget : ∀ (i : Nat) (x : Int), (List.replicate size (0 : Int))[i]? = some x → x = 0 := fun i x h => by
    rw [List.getElem?_replicate] at h
    split at h
    · exact (Option.some.inj h).symm
    · cases h
  refine ⟨⟨trivial, trivial, fun i => ?_, fun i => ?_, fun i x h => ?_⟩, ?_, ?_, rfl, h2, rfl, rfl, rfl, rfl, rfl, rfl, List.Perm.refl _, fun r h => by cases h⟩
  · rw [e]
    exact ⟨fun h => absurd (hget i 1 h) (by decide), fun h => absurd h (cov_nil i)⟩
  · rw [e]
    exact ⟨fun h => absurd (hget i 2 h) (by decide), fun h => absurd h (cov_nil i)⟩
  · rw [e] at h
    exact .inl (hget i x h)
  · rw [e, List.length_replicate]
    rfl
  · rw [e, List.length_replicate]
    exact h1
end GK
end
section
set_option linter.all false
namespace GK
/-! ### bytes in pieces of 4096 -/
theorem chunks_map {α : Type} (g : Nat → α) : ∀ (k n : Nat), n ≤ 4096 * k → (List.range k).flatMap (fun i => (List.range (min 4096 (n - 4096 * i))).map fun j => g (4096 * i + j)) = (List.range n).map g
  | 0, n, h => by
    have : n = 0 := by omega
    subst this
    rfl
  | k + 1, n, h => by
    rw [List.range_succ, List.flatMap_append]
    have e1 : (List.range k).flatMap (fun i => (List.range (min 4096 (n - 4096 * i))).map fun j => g (4096 * i + j)) = (List.range k).flatMap (fun i => (List.range (min 4096 (min n (4096 * k) - 4096 * i))).map fun j => g (4096 * i + j)) := by
      have : ∀ l : List Nat, (∀ i ∈ l, i < k) → l.flatMap (fun i => (List.range (min 4096 (n - 4096 * i))).map fun j => g (4096 * i + j)) = l.flatMap (fun i => (List.range (min 4096 (min n (4096 * k) - 4096 * i))).map fun j => g (4096 * i + j)) := by
        intro l
        induction l with
        | nil => intro _; rfl
        | cons a l ih =>
          intro hl
          rw [List.flatMap_cons, List.flatMap_cons, ih fun i hi => hl i (List.mem_cons_of_mem _ hi)]
          have := hl a List.mem_cons_self
          rw [show min 4096 (n - 4096 * a) = min 4096 (min n (4096 * k) - 4096 * a) by omega]
      exact this _ fun i hi => List.mem_range.mp hi
    rw [e1, chunks_map g k (min n (4096 * k)) (by omega)]
    have e2 : n = min n (4096 * k) + (n - 4096 * k) := by omega
    conv => rhs; rw [e2, List.range_add, List.map_append, List.map_map]
    congr 1
    rw [List.flatMap_cons, List.flatMap_nil, List.append_nil, show min 4096 (n - 4096 * k) = n - 4096 * k by omega]
    refine List.map_congr_left fun j hj => ?_
    have := List.mem_range.mp hj
    show g (4096 * k + j) = g (min n (4096 * k) + j)
    rw [show min n (4096 * k) = 4096 * k by omega]
/-- what putting so many bytes does -/
def Puts (old new : Nat → Nat) (at_ : Nat) (b : List Nat) : Prop := ∀ j, new j = if at_ ≤ j ∧ j < at_ + b.length then b.getD (j - at_) 0 else old j
theorem fold_put {H : Type} (st : H → Nat → List Nat → H) (I : H → Prop) (byte : H → Nat → Nat) (lo hi : Nat)
    (hs : ∀ h at_ b, I h → lo ≤ at_ → at_ + b.length ≤ hi → b ≠ [] → b.length ≤ 4096 → (∀ x ∈ b, x < 256) → I (st h at_ b) ∧ Puts (byte h) (byte (st h at_ b)) at_ b) :
    ∀ (at_ : Nat) (b : List Nat) (h : H), I h → lo ≤ at_ → at_ + b.length ≤ hi → (∀ x ∈ b, x < 256) → ∀ k, k ≤ (b.length + 4095) / 4096 →
      I ((List.range k).foldl (fun h i => st h (at_ + 4096 * i) ((b.drop (4096 * i)).take 4096)) h) ∧ Puts (byte h) (byte ((List.range k).foldl (fun h i => st h (at_ + 4096 * i) ((b.drop (4096 * i)).take 4096)) h)) at_ (b.take (4096 * k)) := by
  intro at_ b h hI hlo hhi hby k
  induction k with
  | zero =>
    intro _
    refine ⟨hI, fun j => ?_⟩
    rw [Nat.mul_zero, List.take_zero, if_neg (by rw [List.length_nil]; omega)]
    rfl
  | succ k ih =>
    intro hk
    obtain ⟨i1, i2⟩ := ih (by omega)
    rw [List.range_succ, List.foldl_append]
    have hlen : ((b.drop (4096 * k)).take 4096).length = min 4096 (b.length - 4096 * k) := by rw [List.length_take, List.length_drop]
    obtain ⟨j1, j2⟩ := hs _ (at_ + 4096 * k) ((b.drop (4096 * k)).take 4096) i1 (by omega) (by rw [hlen]; omega) (fun e => by
      rw [e] at hlen
      have : ([] : List Nat).length = 0 := rfl
      omega) (by rw [hlen]; omega) (fun x hx => hby x (List.mem_of_mem_drop (List.mem_of_mem_take hx)))
    refine ⟨j1, fun j => ?_⟩
    show byte (st _ (at_ + 4096 * k) ((b.drop (4096 * k)).take 4096)) j = _
    rw [j2 j, i2 j, hlen, List.length_take, List.length_take]
    by_cases c : at_ + 4096 * k ≤ j ∧ j < at_ + 4096 * k + min 4096 (b.length - 4096 * k)
    · rw [if_pos c, if_pos (by omega)]
      rw [List.getD_eq_getElem?_getD, List.getD_eq_getElem?_getD, List.getElem?_take, List.getElem?_take, List.getElem?_drop, if_pos (by omega), if_pos (by omega)]
      congr 2
      omega
    · rw [if_neg c]
      by_cases d : at_ ≤ j ∧ j < at_ + min (4096 * k) b.length
      · rw [if_pos d, if_pos (by omega)]
        rw [List.getD_eq_getElem?_getD, List.getD_eq_getElem?_getD, List.getElem?_take, List.getElem?_take, if_pos (by omega), if_pos (by omega)]
      · rw [if_neg d, if_neg (by omega)]
/-! ### the bytes of the pages -/
theorem byteAt_put (l : List (Nat × Nat)) (at_ : Nat) (b : List Nat) (j : Nat) : Kg45.byteAt (Kg45.putBytes l at_ b) j = if at_ ≤ j ∧ j < at_ + b.length then b.getD (j - at_) 0 else Kg45.byteAt l j := by
  unfold Kg45.byteAt Kg45.putBytes
  rw [List.find?_append]
  have e2 : ((l.filter fun x => decide (x.1 < at_) || decide (at_ + b.length ≤ x.1)).find? fun x => x.1 == j) = if at_ ≤ j ∧ j < at_ + b.length then none else l.find? fun x => x.1 == j := by
    by_cases c : at_ ≤ j ∧ j < at_ + b.length
    · rw [if_pos c, List.find?_eq_none]
      intro x hx q
      have := (List.mem_filter.mp hx).2
      have e : x.1 = j := by simpa using q
      simp only [Bool.or_eq_true, decide_eq_true_eq] at this
      omega
    · rw [if_neg c]
      induction l with
      | nil => rfl
      | cons x l ih =>
        rw [List.filter_cons]
        by_cases d : x.1 = j
        · have : (decide (x.1 < at_) || decide (at_ + b.length ≤ x.1)) = true := by
            simp only [Bool.or_eq_true, decide_eq_true_eq]
            omega
          rw [if_pos this, List.find?_cons, List.find?_cons]
          simp [d]
        · have hne : (x.1 == j) = false := by simpa using d
          by_cases q : (decide (x.1 < at_) || decide (at_ + b.length ≤ x.1)) = true
          · rw [if_pos q, List.find?_cons, List.find?_cons, hne]
            exact ih
          · rw [if_neg q, List.find?_cons, hne]
            exact ih
  have e1 : ∀ (b : List Nat) (o : Nat), ((((b.zipIdx o).filter fun x => x.1 != 0).map fun x => (at_ + x.2, x.1)).find? fun x => x.1 == j) = if at_ + o ≤ j ∧ j < at_ + o + b.length ∧ b.getD (j - (at_ + o)) 0 ≠ 0 then some (j, b.getD (j - (at_ + o)) 0) else none := by
    intro b
    induction b with
    | nil =>
      intro o
      rw [if_neg (by rw [List.length_nil]; omega)]
      rfl
    | cons z b ih =>
      intro o
      rw [List.zipIdx_cons, List.filter_cons, List.length_cons]
      by_cases hz : z = 0
      · rw [if_neg (by simp [hz]), ih (o + 1)]
        by_cases c : at_ + (o + 1) ≤ j ∧ j < at_ + (o + 1) + b.length ∧ b.getD (j - (at_ + (o + 1))) 0 ≠ 0
        · have ej : j - (at_ + o) = (j - (at_ + (o + 1))) + 1 := by omega
          rw [if_pos c, ej, List.getD_cons_succ, if_pos ⟨by omega, by omega, c.2.2⟩]
        · rw [if_neg c, if_neg]
          rintro ⟨c1, c2, c3⟩
          by_cases d : j = at_ + o
          · rw [d, Nat.sub_self, List.getD_cons_zero] at c3
            exact c3 hz
          · have ej : j - (at_ + o) = (j - (at_ + (o + 1))) + 1 := by omega
            rw [ej, List.getD_cons_succ] at c3
            exact c ⟨by omega, by omega, c3⟩
      · rw [if_pos (by simpa using hz), List.map_cons, List.find?_cons]
        by_cases d : j = at_ + o
        · have : ((at_ + o == j) : Bool) = true := by simp [d]
          rw [this, d, Nat.sub_self, List.getD_cons_zero, if_pos ⟨Nat.le_refl _, by omega, hz⟩]
        · have : ((at_ + o == j) : Bool) = false := by
            simp
            omega
          rw [this, ih (o + 1)]
          by_cases c : at_ + (o + 1) ≤ j ∧ j < at_ + (o + 1) + b.length ∧ b.getD (j - (at_ + (o + 1))) 0 ≠ 0
          · have ej : j - (at_ + o) = (j - (at_ + (o + 1))) + 1 := by omega
            rw [if_pos c, ej, List.getD_cons_succ, if_pos ⟨by omega, by omega, c.2.2⟩]
          · rw [if_neg c, if_neg]
            rintro ⟨c1, c2, c3⟩
            have ej : j - (at_ + o) = (j - (at_ + (o + 1))) + 1 := by omega
            rw [ej, List.getD_cons_succ] at c3
            exact c ⟨by omega, by omega, c3⟩
  have e1' := e1 b 0
  rw [Nat.add_zero] at e1'
  rw [e1', e2]
  by_cases c : at_ ≤ j ∧ j < at_ + b.length
  · rw [if_pos c, if_pos c]
    by_cases d : b.getD (j - at_) 0 = 0
    · rw [if_neg (fun q => q.2.2 d), d]
      rfl
    · rw [if_pos ⟨c.1, c.2, d⟩]
      rfl
  · rw [if_neg c, if_neg c, if_neg (fun q => c ⟨q.1, q.2.1⟩)]
    rfl
/-- a byte of the pages' -/
def byteR (l : List Kg45.Run) (i : Nat) : Nat := match l.find? fun r => decide (r.first * 4096 ≤ i) && decide (i < (r.first + r.pages) * 4096) with
  | some r => r.byte (i - r.first * 4096)
  | none => 0
theorem holding_eq (s : Kg45.State) (i : Nat) : s.holding (i : Int) = s.runs.find? fun r => decide (r.first * 4096 ≤ i) && decide (i < (r.first + r.pages) * 4096) := by
  unfold Kg45.State.holding
  congr 1
  funext r
  have e : Kg45.PAGE = 4096 := rfl
  rw [e]
  rw [Bool.eq_iff_iff]
  simp only [Bool.and_eq_true, decide_eq_true_eq]
  omega
theorem find_run {l : List Kg45.Run} (hd : Dis 0 (rr l)) {r : Kg45.Run} (hr : r ∈ l) (hn : (l.map Kg45.Run.first).Nodup) {i : Nat} (h1 : r.first * 4096 ≤ i) (h2 : i < (r.first + r.pages) * 4096) : (l.find? fun r => decide (r.first * 4096 ≤ i) && decide (i < (r.first + r.pages) * 4096)) = some r := by
  have hpage : ∀ x : Kg45.Run, x.first * 4096 ≤ i → i < (x.first + x.pages) * 4096 → x.first ≤ i / 4096 ∧ i / 4096 < x.first + x.pages := fun x a b => by omega
  have key : ∀ x ∈ l, x.first * 4096 ≤ i → i < (x.first + x.pages) * 4096 → x.first = r.first := fun x hx a b => by
    obtain ⟨p1, p2⟩ := hpage x a b
    obtain ⟨q1, q2⟩ := hpage r h1 h2
    have := dis_same hd (x.first, x.pages) (List.mem_map.mpr ⟨x, hx, rfl⟩) (r.first, r.pages) (List.mem_map.mpr ⟨r, hr, rfl⟩) (i / 4096) p1 p2 q1 q2
    exact congrArg Prod.fst this
  clear hpage hd
  induction l with
  | nil => cases hr
  | cons y l ih =>
    rw [List.find?_cons]
    rw [List.map_cons, List.nodup_cons] at hn
    by_cases c : (decide (y.first * 4096 ≤ i) && decide (i < (y.first + y.pages) * 4096)) = true
    · rw [c]
      simp only [Bool.and_eq_true, decide_eq_true_eq] at c
      have e := key y List.mem_cons_self c.1 c.2
      rcases List.mem_cons.mp hr with rfl | h
      · rfl
      · exact absurd (List.mem_map.mpr ⟨r, h, e.symm⟩) hn.1
    · have c : (decide (y.first * 4096 ≤ i) && decide (i < (y.first + y.pages) * 4096)) = false := by simpa using c
      rw [c]
      rcases List.mem_cons.mp hr with rfl | h
      · simp only [Bool.and_eq_false_iff, decide_eq_false_iff_not] at c
        omega
      · exact ih h hn.2 fun x hx => key x (List.mem_cons_of_mem _ hx)
end GK
end
section
set_option linter.all false
namespace GK
theorem firsts_nodup {l : List Kg45.Run} {lo : Nat} (hd : Dis lo (rr l)) : (l.map Kg45.Run.first).Nodup := by
  have := dis_nodup hd
  unfold rr at this
  rw [List.map_map] at this
  exact this
theorem same_first {l : List Kg45.Run} {lo : Nat} (hd : Dis lo (rr l)) {x r : Kg45.Run} (hx : x ∈ l) (hr : r ∈ l) (e : x.first = r.first) : x = r := by
  have hn := firsts_nodup hd
  clear hd
  induction l with
  | nil => cases hx
  | cons y l ih =>
    rw [List.map_cons, List.nodup_cons] at hn
    rcases List.mem_cons.mp hx with h1 | h1
    · rcases List.mem_cons.mp hr with h2 | h2
      · rw [h1, h2]
      · exact absurd (List.mem_map.mpr ⟨r, h2, by rw [← e, h1]⟩) hn.1
    · rcases List.mem_cons.mp hr with h2 | h2
      · exact absurd (List.mem_map.mpr ⟨x, h1, by rw [e, h2]⟩) hn.1
      · exact ih h1 h2 hn.2
theorem with_rr {l : List Kg45.Run} {lo : Nat} (hd : Dis lo (rr l)) {r r' : Kg45.Run} (hr : r ∈ l) (h1 : r'.first = r.first) (h2 : r'.pages = r.pages) : rr (l.map fun x => if x.first = r'.first then r' else x) = rr l := by
  unfold rr
  rw [List.map_map]
  refine List.map_congr_left fun x hx => ?_
  show ((if x.first = r'.first then r' else x).first, (if x.first = r'.first then r' else x).pages) = (x.first, x.pages)
  by_cases c : x.first = r'.first
  · have e := same_first hd hx hr (by rw [c, h1])
    rw [if_pos c, h1, h2, e]
  · rw [if_neg c]
theorem byteR_with {l : List Kg45.Run} {r r' : Kg45.Run} (hd : Dis 0 (rr l)) (hr : r ∈ l) (h1 : r'.first = r.first) (h2 : r'.pages = r.pages) (j : Nat) : byteR (l.map fun x => if x.first = r'.first then r' else x) j = if r.first * 4096 ≤ j ∧ j < (r.first + r.pages) * 4096 then r'.byte (j - r.first * 4096) else byteR l j := by
  have hd' : Dis 0 (rr (l.map fun x => if x.first = r'.first then r' else x)) := by rw [with_rr hd hr h1 h2]; exact hd
  have hr' : r' ∈ l.map fun x => if x.first = r'.first then r' else x := List.mem_map.mpr ⟨r, hr, if_pos h1.symm⟩
  by_cases c : r.first * 4096 ≤ j ∧ j < (r.first + r.pages) * 4096
  · rw [if_pos c]
    unfold byteR
    rw [find_run hd' hr' (firsts_nodup hd') (i := j) (by rw [h1]; exact c.1) (by rw [h1, h2]; exact c.2)]
    show r'.byte (j - r'.first * 4096) = _
    rw [h1]
  · rw [if_neg c]
    cases e : l.find? fun r => decide (r.first * 4096 ≤ j) && decide (j < (r.first + r.pages) * 4096) with
    | none =>
      have e2 : ((l.map fun x => if x.first = r'.first then r' else x).find? fun r => decide (r.first * 4096 ≤ j) && decide (j < (r.first + r.pages) * 4096)) = none := by
        rw [List.find?_eq_none] at e ⊢
        intro y hy q
        obtain ⟨x, hx, rfl⟩ := List.mem_map.mp hy
        by_cases d : x.first = r'.first
        · rw [if_pos d] at q
          simp only [Bool.and_eq_true, decide_eq_true_eq] at q
          rw [h1, h2] at q
          exact c q
        · rw [if_neg d] at q
          exact e x hx q
      unfold byteR
      rw [e, e2]
    | some x =>
      have hx := List.mem_of_find?_eq_some e
      have hp := List.find?_some e
      simp only [Bool.and_eq_true, decide_eq_true_eq] at hp
      have d : ¬ x.first = r'.first := fun d => by
        have := same_first hd hx hr (by rw [d, h1])
        rw [this] at hp
        exact c hp
      have hx' : x ∈ l.map fun x => if x.first = r'.first then r' else x := List.mem_map.mpr ⟨x, hx, if_neg d⟩
      unfold byteR
      rw [find_run hd' hx' (firsts_nodup hd') (i := j) hp.1 hp.2, e]
theorem byteR_in {l : List Kg45.Run} (hd : Dis 0 (rr l)) {r : Kg45.Run} (hr : r ∈ l) {j : Nat} (h1 : r.first * 4096 ≤ j) (h2 : j < (r.first + r.pages) * 4096) : byteR l j = Kg45.byteAt r.bytes (j - r.first * 4096) := by
  unfold byteR
  rw [find_run hd hr (firsts_nodup hd) h1 h2]
  rfl
theorem RelP.with_ {m : MPages} {s : Kg45.State} (R : RelP m s) {r r' : Kg45.Run} (hr : r ∈ s.runs) (h1 : r'.first = r.first) (h2 : r'.pages = r.pages) (h3 : r'.mark = 4) : RelP m (s.with_ r') := by
  have e := with_rr R.mrk.dis hr h1 h2
  have er : rr (s.with_ r').runs = rr s.runs := e
  refine ⟨by rw [er]; exact R.mrk, R.size, R.len, R.chunk, R.chl, R.spare, R.asked, R.refused, R.came, R.went, R.most, ?_, ?_⟩
  · have e2 : ((s.with_ r').runs.map fun r => ((r.first : Int), (r.pages : Int))) = (rr (s.with_ r').runs).map castR := by
      unfold rr
      rw [List.map_map]
      rfl
    have e3 : (s.runs.map fun r => ((r.first : Int), (r.pages : Int))) = (rr s.runs).map castR := by
      unfold rr
      rw [List.map_map]
      rfl
    rw [e2, er, ← e3]
    exact R.runs
  · intro x hx
    obtain ⟨y, hy, rfl⟩ := List.mem_map.mp hx
    by_cases c : y.first = r'.first
    · show (if y.first = r'.first then r' else y).mark = 4
      rw [if_pos c]
      exact h3
    · show (if y.first = r'.first then r' else y).mark = 4
      rw [if_neg c]
      exact R.mark y hy
/-! #### puts and gets of the pages -/
def I45 (m : MPages) (R0 : List (Nat × Nat)) (h : Kg45.House) : Prop := ∃ s, h = some s ∧ RelP m s ∧ rr s.runs = R0
def byte45 (h : Kg45.House) (j : Nat) : Nat := match h with
  | some s => byteR s.runs j
  | none => 0
/-- a stretch that lies in one run -/
def InRun (R0 : List (Nat × Nat)) (lo hi : Nat) : Prop := ∃ x ∈ R0, x.1 * 4096 ≤ lo ∧ hi ≤ (x.1 + x.2) * 4096
theorem put45 {m : MPages} {R0 : List (Nat × Nat)} {h : Kg45.House} {lo hi at_ : Nat} {b : List Nat} (hI : I45 m R0 h) (hr : InRun R0 lo hi) (hlo : lo ≤ at_) (hhi : at_ + b.length ≤ hi) (hb : b ≠ []) (hby : ∀ x ∈ b, x < 256) :
    I45 m R0 (Kg46.still h (.put (at_ : Int) (some b))).1 ∧ Puts (byte45 h) (byte45 (Kg46.still h (.put (at_ : Int) (some b))).1) at_ b := by
  obtain ⟨s, rfl, R, er⟩ := hI
  obtain ⟨x, hx, x1, x2⟩ := hr
  rw [← er] at hx
  obtain ⟨r, hr, rfl⟩ := List.mem_map.mp hx
  have x1 : r.first * 4096 ≤ lo := x1
  have x2 : hi ≤ (r.first + r.pages) * 4096 := x2
  have hbl : 0 < b.length := List.length_pos_iff.mpr hb
  have hany : (b.any fun x => decide (255 < x)) = false := by
    rw [List.any_eq_false]
    intro x hx q
    have := hby x hx
    have := of_decide_eq_true q
    omega
  have hold : s.holding (at_ : Int) = some r := by
    rw [holding_eq]
    exact find_run R.mrk.dis hr (firsts_nodup R.mrk.dis) (by omega) (by omega)
  have ein : Kg45.inRun r (at_ : Int) = at_ - r.first * 4096 := by
    unfold Kg45.inRun
    have : Kg45.PAGE = 4096 := rfl
    rw [this]
    omega
  have hmark := R.mark r hr
  have es : Kg45.spec (some s) (.put (at_ : Int) (some b)) = .done (some (s.with_ { r with bytes := Kg45.putBytes r.bytes (at_ - r.first * 4096) b })) (Kg45.num 0) := by
    show (if (b.any fun x => decide (255 < x)) = true then _ else _) = _
    rw [hany, if_neg (by decide), hold]
    show (if r.pages * Kg45.PAGE < Kg45.inRun r (at_ : Int) + b.length then _ else _) = _
    rw [ein, if_neg (by have : Kg45.PAGE = 4096 := rfl; rw [this]; omega), hmark, if_neg (by decide)]
  have est : (Kg46.still (some s) (.put (at_ : Int) (some b))).1 = some (s.with_ { r with bytes := Kg45.putBytes r.bytes (at_ - r.first * 4096) b }) := by
    unfold Kg46.still
    rw [es]
  rw [est]
  refine ⟨⟨_, rfl, R.with_ hr rfl rfl hmark, by rw [← er]; exact with_rr R.mrk.dis hr rfl rfl⟩, fun j => ?_⟩
  show byteR (s.runs.map fun x => if x.first = ({ r with bytes := Kg45.putBytes r.bytes (at_ - r.first * 4096) b } : Kg45.Run).first then _ else x) j = if _ then _ else byteR s.runs j
  rw [byteR_with (r := r) (r' := { r with bytes := Kg45.putBytes r.bytes (at_ - r.first * 4096) b }) R.mrk.dis hr rfl rfl]
  by_cases c : r.first * 4096 ≤ j ∧ j < (r.first + r.pages) * 4096
  · rw [if_pos c]
    show Kg45.byteAt (Kg45.putBytes r.bytes (at_ - r.first * 4096) b) (j - r.first * 4096) = _
    rw [byteAt_put, byteR_in R.mrk.dis hr c.1 c.2]
    by_cases d : at_ ≤ j ∧ j < at_ + b.length
    · rw [if_pos d, if_pos (by omega)]
      congr 1
      omega
    · rw [if_neg d, if_neg (by omega)]
  · rw [if_neg c, if_neg (by omega)]
theorem get45 {m : MPages} {R0 : List (Nat × Nat)} {h : Kg45.House} {lo hi at_ n : Nat} (hI : I45 m R0 h) (hr : InRun R0 lo hi) (hlo : lo ≤ at_) (hhi : at_ + n ≤ hi) (hn : 0 < n) (hn2 : n ≤ 4096) :
    (Kg46.still h (.get (at_ : Int) (n : Int))).2.out = (List.range n).map fun j => (byte45 h (at_ + j) : Int) := by
  obtain ⟨s, rfl, R, er⟩ := hI
  obtain ⟨x, hx, x1, x2⟩ := hr
  rw [← er] at hx
  obtain ⟨r, hr, rfl⟩ := List.mem_map.mp hx
  have x1 : r.first * 4096 ≤ lo := x1
  have x2 : hi ≤ (r.first + r.pages) * 4096 := x2
  have hold : s.holding (at_ : Int) = some r := by
    rw [holding_eq]
    exact find_run R.mrk.dis hr (firsts_nodup R.mrk.dis) (by omega) (by omega)
  have ein : Kg45.inRun r (at_ : Int) = at_ - r.first * 4096 := by
    unfold Kg45.inRun
    have : Kg45.PAGE = 4096 := rfl
    rw [this]
    omega
  have hmark := R.mark r hr
  have hw : Kg45.within (n : Int) 0 4096 = true := by
    unfold Kg45.within
    rw [decide_eq_true (show (0 : Int) ≤ (n : Int) by omega), decide_eq_true (show (n : Int) ≤ 4096 by omega)]
    rfl
  have es : Kg45.spec (some s) (.get (at_ : Int) (n : Int)) = .done (some s) ⟨0, (List.range n).map fun j => (r.byte (at_ - r.first * 4096 + j) : Int)⟩ := by
    show (if Kg45.within (n : Int) 0 4096 = false then _ else _) = _
    rw [hw, if_neg (by decide), hold]
    show (if r.pages * Kg45.PAGE < Kg45.inRun r (at_ : Int) + (n : Int).toNat then _ else _) = _
    rw [ein, Int.toNat_natCast, if_neg (by have : Kg45.PAGE = 4096 := rfl; rw [this]; omega), hmark, if_neg (by decide)]
  unfold Kg46.still
  rw [es]
  refine List.map_congr_left fun j hj => ?_
  have := List.mem_range.mp hj
  show (Kg45.byteAt r.bytes (at_ - r.first * 4096 + j) : Int) = (byteR s.runs (at_ + j) : Int)
  rw [byteR_in R.mrk.dis hr (by omega) (by omega)]
  congr 2
  omega
theorem putAt45 {m : MPages} {R0 : List (Nat × Nat)} {lo hi : Nat} (hr : InRun R0 lo hi) {h : Kg45.House} {at_ : Nat} {b : List Nat} (hI : I45 m R0 h) (hlo : lo ≤ at_) (hhi : at_ + b.length ≤ hi) (hby : ∀ x ∈ b, x < 256) :
    I45 m R0 (Kg46.putAt h at_ b) ∧ Puts (byte45 h) (byte45 (Kg46.putAt h at_ b)) at_ b := by
  have e : Kg46.putAt h at_ b = (List.range ((b.length + 4095) / 4096)).foldl (fun h i => (Kg46.still h (.put ((at_ + 4096 * i : Nat) : Int) (some ((b.drop (4096 * i)).take 4096)))).1) h := by
    unfold Kg46.putAt Kg46.pieces
    rw [List.foldl_map]
  obtain ⟨a, c⟩ := fold_put (fun h a b => (Kg46.still h (.put (a : Int) (some b))).1) (I45 m R0) byte45 lo hi (fun h a b i1 i2 i3 i4 i5 i6 => put45 i1 hr i2 i3 i4 i6) at_ b h hI hlo hhi hby _ (Nat.le_refl _)
  rw [← e, List.take_of_length_le (show b.length ≤ 4096 * ((b.length + 4095) / 4096) by omega)] at c
  rw [← e] at a
  exact ⟨a, c⟩
theorem wiped_eq (h : Kg45.House) (at_ n : Nat) : Kg46.wiped h at_ n = Kg46.putAt h at_ (List.replicate n 0) := by
  unfold Kg46.wiped Kg46.putAt Kg46.pieces
  rw [List.foldl_map, List.length_replicate]
  have : ∀ i, ((List.replicate n 0).drop (4096 * i)).take 4096 = List.replicate (min 4096 (n - 4096 * i)) 0 := fun i => by
    rw [List.drop_replicate, List.take_replicate]
  congr 1
  funext h i
  show _ = (Kg46.still h (.put _ (some (((List.replicate n 0).drop (4096 * i)).take 4096)))).1
  rw [this]
theorem bytesAt45 {m : MPages} {R0 : List (Nat × Nat)} {lo hi : Nat} (hr : InRun R0 lo hi) {h : Kg45.House} {at_ n : Nat} (hI : I45 m R0 h) (hlo : lo ≤ at_) (hhi : at_ + n ≤ hi) : Kg46.bytesAt h at_ n = (List.range n).map fun j => byte45 h (at_ + j) := by
  rw [← chunks_map (fun j => byte45 h (at_ + j)) ((n + 4095) / 4096) n (by omega)]
  unfold Kg46.bytesAt
  have : ∀ l : List Nat, (∀ i ∈ l, i < (n + 4095) / 4096) → l.flatMap (fun i => (Kg46.still h (.get ((at_ + 4096 * i : Nat) : Int) ((min 4096 (n - 4096 * i) : Nat) : Int))).2.out.map Int.toNat) = l.flatMap (fun i => (List.range (min 4096 (n - 4096 * i))).map fun j => byte45 h (at_ + (4096 * i + j))) := by
    intro l
    induction l with
    | nil => intro _; rfl
    | cons i l ih =>
      intro hl
      have hi := hl i List.mem_cons_self
      rw [List.flatMap_cons, List.flatMap_cons, ih fun x hx => hl x (List.mem_cons_of_mem _ hx)]
      congr 1
      rw [get45 hI hr (by omega) (by omega) (by omega) (by omega), List.map_map]
      refine List.map_congr_left fun j _ => ?_
      show ((byte45 h (at_ + 4096 * i + j) : Nat) : Int).toNat = _
      rw [Int.toNat_natCast, Nat.add_assoc]
  exact this _ fun i hi => List.mem_range.mp hi
end GK
end
section
set_option linter.all false
set_option maxRecDepth 100000
namespace GK
/-! ### the forty sizes -/
theorem sizes_eq : smallSizes = Kg46.sizes.map fun (n : Nat) => (n : Int) := by decide +kernel
theorem size_facts : ∀ k, k < 40 → 16 ≤ Kg46.sizeAt k ∧ Kg46.sizeAt k ≤ 32768 ∧ Kg46.sizeAt k % 16 = 0 ∧ Kg46.runPages (Kg46.sizeAt k) ≤ 64 ∧ 0 < Kg46.runPages (Kg46.sizeAt k) ∧ Kg46.sizeAt k ≤ Kg46.runPages (Kg46.sizeAt k) * 4096 ∧
    GK.runPages (Kg46.sizeAt k : Int) = some (Kg46.runPages (Kg46.sizeAt k) : Int) := by decide +kernel
theorem sizes_length : Kg46.sizes.length = 40 := by decide +kernel
theorem sizes_inj : ∀ i, i < 40 → ∀ j, j < 40 → Kg46.sizeAt i = Kg46.sizeAt j → i = j := by decide +kernel
theorem find_idx {α β : Type} (c : α → β) (p : α → Bool) (q : β → Bool) (d : α) : ∀ l : List α, (∀ x ∈ l, q (c x) = p x) → (l.map c).find? q = (l.findIdx? p).map fun k => c (l.getD k d)
  | [], _ => rfl
  | x :: l, h => by
    rw [List.map_cons, List.find?_cons, List.findIdx?_cons, h x List.mem_cons_self]
    cases p x with
    | true => rfl
    | false =>
      rw [if_neg (by decide)]
      show (l.map c).find? q = _
      rw [find_idx c p q d l fun y hy => h y (List.mem_cons_of_mem _ hy), Option.map_map]
      rfl
theorem sizeFor_eq (n a : Nat) : GK.sizeFor (n : Int) (a : Int) = (Kg46.sizeFor n a).map fun k => (Kg46.sizeAt k : Int) := by
  unfold GK.sizeFor Kg46.sizeFor
  rw [sizes_eq]
  refine find_idx _ _ _ 0 _ fun x _ => ?_
  rw [Bool.eq_iff_iff]
  simp only [Bool.and_eq_true, decide_eq_true_eq, beq_iff_eq]
  omega
theorem sizeFor_lt {n a k : Nat} (h : Kg46.sizeFor n a = some k) : k < 40 ∧ n ≤ Kg46.sizeAt k ∧ Kg46.sizeAt k % a = 0 := by
  unfold Kg46.sizeFor at h
  obtain ⟨h1, h2, _⟩ := List.findIdx?_eq_some_iff_getElem.mp h
  rw [sizes_length] at h1
  refine ⟨h1, ?_⟩
  simp only [Bool.and_eq_true, decide_eq_true_eq, beq_iff_eq] at h2
  have e : Kg46.sizeAt k = Kg46.sizes[k]'(by rw [sizes_length]; exact h1) := by
    unfold Kg46.sizeAt
    rw [List.getD_eq_getElem?_getD, List.getElem?_eq_getElem (by rw [sizes_length]; exact h1)]
    rfl
  rw [e]
  exact h2
/-! ### runs of blocks -/
def sz (r : Kg46.Small) : Nat := Kg46.sizeAt r.kind
def rp (r : Kg46.Small) : Nat := Kg46.runPages (Kg46.sizeAt r.kind)
def usedAt (u : List (Nat × Nat)) (i : Nat) : Bool := u.any fun x => x.1 == i
def mrun (r : Kg46.Small) : MRun := ⟨(r.page : Int), (sz r : Int), (rp r : Int), (List.range r.places).map (usedAt r.used)⟩
/-- places used, rising -/
def Ups (u : List (Nat × Nat)) : Prop := Dis 0 (u.map fun x => (x.1, 1))
structure SOk (r : Kg46.Small) : Prop where
  kind : r.kind < 40
  ups : Ups r.used
  lt : ∀ x ∈ r.used, x.1 < r.places
  fit : ∀ x ∈ r.used, x.2 ≤ sz r
theorem usedAt_iff (u : List (Nat × Nat)) (i : Nat) : usedAt u i = true ↔ cov (u.map fun x => (x.1, 1)) i := by
  unfold usedAt cov
  rw [List.any_eq_true]
  constructor
  · rintro ⟨x, hx, e⟩
    have e : x.1 = i := by simpa using e
    exact ⟨(x.1, 1), List.mem_map.mpr ⟨x, hx, rfl⟩, by show x.1 ≤ i; omega, by show i < x.1 + 1; omega⟩
  · rintro ⟨y, hy, a, b⟩
    obtain ⟨x, hx, rfl⟩ := List.mem_map.mp hy
    have a : x.1 ≤ i := a
    have b : i < x.1 + 1 := b
    exact ⟨x, hx, by simp; omega⟩
theorem used_count {u : List (Nat × Nat)} {N : Nat} (h : Ups u) (hl : ∀ x ∈ u, x.1 < N) : ((List.range N).filter (usedAt u)).length = u.length := by
  have h1 := count_range' h (Nat.zero_le N) fun i q => by
    obtain ⟨y, hy, a, b⟩ := q
    obtain ⟨x, hx, rfl⟩ := List.mem_map.mp hy
    have a : x.1 ≤ i := a
    have b : i < x.1 + 1 := b
    have := hl x hx
    omega
  rw [Nat.sub_zero, ← List.range_eq_range'] at h1
  have e : (List.range N).filter (usedAt u) = (List.range N).filter (covb (u.map fun x => (x.1, 1))) := List.filter_congr fun i _ => by
    rw [Bool.eq_iff_iff, usedAt_iff, covb_iff]
  rw [e, h1]
  unfold Kg45.count
  rw [List.map_map]
  clear h1 e h hl
  induction u with
  | nil => rfl
  | cons x u ih =>
    rw [List.map_cons, List.sum_cons, ih, List.length_cons]
    show 1 + u.length = _
    omega
theorem hasFree_eq {r : Kg46.Small} (h : SOk r) : (mrun r).hasFree = !r.full := by
  have hc := used_count h.ups h.lt
  have hle : ((List.range r.places).filter (usedAt r.used)).length ≤ r.places := by
    have := List.length_filter_le (usedAt r.used) (List.range r.places)
    rw [List.length_range] at this
    exact this
  unfold MRun.hasFree Kg46.Small.full
  show ((List.range r.places).map (usedAt r.used)).any (fun b => !b) = _
  rw [Bool.eq_iff_iff, List.any_eq_true, Bool.not_eq_true', decide_eq_false_iff_not]
  constructor
  · rintro ⟨b, hb, e⟩ q
    obtain ⟨i, hi, rfl⟩ := List.mem_map.mp hb
    have hall : ((List.range r.places).filter (usedAt r.used)).length = (List.range r.places).length := by
      rw [List.length_range]
      omega
    have := (List.length_filter_eq_length_iff.mp hall) i hi
    rw [this] at e
    cases e
  · intro q
    by_cases c : ∀ i ∈ List.range r.places, usedAt r.used i = true
    · have := List.length_filter_eq_length_iff.mpr c
      rw [List.length_range] at this
      omega
    · have : ∃ i ∈ List.range r.places, usedAt r.used i = false := by
        refine Classical.byContradiction fun n => c fun i hi => ?_
        cases e : usedAt r.used i with
        | true => rfl
        | false => exact absurd ⟨i, hi, e⟩ n
      obtain ⟨i, hi, e⟩ := this
      exact ⟨_, List.mem_map.mpr ⟨i, hi, rfl⟩, by rw [e]; rfl⟩
theorem isEmpty_eq {r : Kg46.Small} (h : SOk r) : (mrun r).isEmpty = true ↔ r.used = [] := by
  unfold MRun.isEmpty
  show (!((List.range r.places).map (usedAt r.used)).any fun b => b) = true ↔ _
  rw [Bool.not_eq_true', List.any_eq_false]
  constructor
  · intro q
    cases e : r.used with
    | nil => rfl
    | cons x u =>
      have hx : x ∈ r.used := by rw [e]; exact List.mem_cons_self
      exact absurd (by
        unfold usedAt
        exact List.any_eq_true.mpr ⟨x, hx, by simp⟩) (q _ (List.mem_map.mpr ⟨x.1, List.mem_range.mpr (h.lt x hx), rfl⟩))
  · intro q b hb e
    obtain ⟨i, _, rfl⟩ := List.mem_map.mp hb
    rw [q] at e
    cases e
theorem free_idx {r : Kg46.Small} (h : SOk r) (hf : r.full = false) : ((mrun r).used.findIdx? fun b => !b) = some r.free ∧ usedAt r.used r.free = false ∧ r.free < r.places := by
  have h1 : ((List.range r.places).map (usedAt r.used)).any (fun b => !b) = true := by
    have := hasFree_eq h
    rw [hf] at this
    exact this
  have e : ((mrun r).used.findIdx? fun b => !b) = (List.range r.places).find? fun i => !(usedAt r.used i) := by
    show ((List.range r.places).map (usedAt r.used)).findIdx? (fun b => !b) = _
    have : ∀ (n o : Nat), ((List.range' o n).map (usedAt r.used)).findIdx? (fun b => !b) = ((List.range' o n).find? fun i => !(usedAt r.used i)).map fun i => i - o := by
      intro n
      induction n with
      | zero => intro o; rfl
      | succ n ih =>
        intro o
        rw [List.range'_succ, List.map_cons, List.findIdx?_cons, List.find?_cons]
        cases usedAt r.used o with
        | false => simp
        | true =>
          rw [if_neg (by decide), ih (o + 1)]
          show Option.map _ _ = Option.map _ ((List.range' (o + 1) n).find? _)
          rw [Option.map_map]
          cases e : (List.range' (o + 1) n).find? fun i => !usedAt r.used i with
          | none => rfl
          | some i =>
            have := List.mem_range'_1.mp (List.mem_of_find?_eq_some e)
            show some (i - (o + 1) + 1) = some (i - o)
            congr 1
            omega
    rw [List.range_eq_range', this]
    simp
  have hfr : ∃ i, (List.range r.places).find? (fun i => !(usedAt r.used i)) = some i := by
    rw [← Option.isSome_iff_exists, List.find?_isSome]
    obtain ⟨b, hb, q⟩ := List.any_eq_true.mp h1
    obtain ⟨i, hi, rfl⟩ := List.mem_map.mp hb
    exact ⟨i, hi, q⟩
  obtain ⟨i, hi⟩ := hfr
  have ef : r.free = i := by
    unfold Kg46.Small.free
    show ((List.range r.places).find? fun i => !(usedAt r.used i)).getD 0 = _
    rw [hi]
    rfl
  refine ⟨by rw [e, hi, ef], ?_, ?_⟩
  · have := List.find?_some hi
    rw [ef]
    simpa using this
  · rw [ef]
    exact List.mem_range.mp (List.mem_of_find?_eq_some hi)
theorem insertUsed_ok : ∀ {u : List (Nat × Nat)} {lo : Nat} {x : Nat × Nat}, Dis lo (u.map fun x => (x.1, 1)) → lo ≤ x.1 → usedAt u x.1 = false → Dis lo ((Kg46.insertUsed u x).map fun x => (x.1, 1)) ∧ (Kg46.insertUsed u x).Perm (x :: u)
  | [], lo, x, _, hl, _ => ⟨⟨hl, by show 0 < 1; decide, trivial⟩, List.Perm.refl _⟩
  | y :: u, lo, x, ⟨h1, h2, h3⟩, hl, hu => by
    have h1 : lo ≤ y.1 := h1
    unfold usedAt at hu
    rw [List.any_cons, Bool.or_eq_false_iff] at hu
    have hne : y.1 ≠ x.1 := by simpa using hu.1
    unfold Kg46.insertUsed
    by_cases c : x.1 < y.1
    · rw [if_pos c]
      exact ⟨⟨hl, by show 0 < 1; decide, by show x.1 + 1 ≤ y.1; omega, h2, h3⟩, List.Perm.refl _⟩
    · rw [if_neg c]
      obtain ⟨a, b⟩ := insertUsed_ok (x := x) h3 (by show y.1 + 1 ≤ x.1; omega) hu.2
      exact ⟨⟨h1, h2, a⟩, (b.cons y).trans (List.Perm.swap x y u)⟩
theorem usedAt_perm {u v : List (Nat × Nat)} (h : u.Perm v) (i : Nat) : usedAt u i = usedAt v i := by
  rw [Bool.eq_iff_iff, usedAt_iff, usedAt_iff]
  exact cov_perm (h.map _) i
theorem usedAt_cons (x : Nat × Nat) (u : List (Nat × Nat)) (i : Nat) : usedAt (x :: u) i = (x.1 == i || usedAt u i) := rfl
end GK
end
section
set_option linter.all false
set_option maxRecDepth 100000
namespace GK
/-! ### the blocks -/
def keyS (r : Kg46.Small) (u : Nat × Nat) : Nat := r.page * 4096 + u.1 * sz r
def blkS (r : Kg46.Small) (u : Nat × Nat) : Int × MBlock := ((keyS r u : Int), ⟨(u.2 : Int), some (r.page : Int)⟩)
def blkG (g : Kg46.Great) : Int × MBlock := (((g.page * 4096 : Nat) : Int), ⟨(g.size : Int), none⟩)
def allB (t : Kg46.State) : List (Int × MBlock) := t.smalls.flatMap (fun r => r.used.map (blkS r)) ++ t.greats.map blkG
def runsT (t : Kg46.State) : List (Nat × Nat) := t.smalls.map (fun r => (r.page, rp r)) ++ t.greats.map fun g => (g.page, g.pages)
structure RelB (B : MBlocks) (t : Kg46.State) : Prop where
  pg : ∃ s, t.pages = some s ∧ RelP B.pg s ∧ (rr s.runs).Perm (runsT t)
  runs : B.runs = t.smalls.map fun r => ((r.page : Int), mrun r)
  blocks : B.blocks.Perm (allB t)
  sok : ∀ r ∈ t.smalls, SOk r
  gok : ∀ g ∈ t.greats, g.pages = Kg46.pagesFor g.size
/-- rows that share no page but with themselves, none empty -/
structure Apart (l : List (Nat × Nat)) : Prop where
  nd : (l.map (·.1)).Nodup
  pos : ∀ x ∈ l, 0 < x.2
  same : ∀ x ∈ l, ∀ y ∈ l, ∀ i, x.1 ≤ i → i < x.1 + x.2 → y.1 ≤ i → i < y.1 + y.2 → x = y
theorem apart_of {l m : List (Nat × Nat)} (hd : Dis 0 l) (h : l.Perm m) : Apart m :=
  ⟨(h.map (·.1)).nodup_iff.mp (dis_nodup hd), fun x hx => (dis_pos hd x (h.mem_iff.mpr hx)).1, fun x hx y hy => dis_same hd x (h.mem_iff.mpr hx) y (h.mem_iff.mpr hy)⟩
theorem RelB.apart {B : MBlocks} {t : Kg46.State} (R : RelB B t) : Apart (runsT t) := by
  obtain ⟨s, _, RP, hp⟩ := R.pg
  exact apart_of RP.mrk.dis hp
theorem key_in {r : Kg46.Small} (h : SOk r) {u : Nat × Nat} (hu : u.1 < r.places) : r.page * 4096 ≤ keyS r u ∧ keyS r u + sz r ≤ (r.page + rp r) * 4096 := by
  unfold keyS
  have hz : 0 < sz r := by
    have := (size_facts r.kind h.kind).1
    unfold sz
    omega
  have e : r.places = rp r * 4096 / sz r := rfl
  have h1 : (u.1 + 1) * sz r ≤ rp r * 4096 := by
    have : u.1 + 1 ≤ rp r * 4096 / sz r := by omega
    exact Nat.le_trans (Nat.mul_le_mul_right _ this) (Nat.div_mul_le_self _ _)
  rw [Nat.add_mul] at h1
  rw [Nat.add_mul]
  omega
theorem places_pos {r : Kg46.Small} (h : SOk r) : 0 < r.places := by
  obtain ⟨a, b, c, d, e, f, g⟩ := size_facts r.kind h.kind
  show 0 < Kg46.runPages (Kg46.sizeAt r.kind) * Kg46.PAGE / Kg46.sizeAt r.kind
  exact Nat.div_pos f (by omega)
theorem mem_runsS {t : Kg46.State} {r : Kg46.Small} (h : r ∈ t.smalls) : (r.page, rp r) ∈ runsT t := List.mem_append_left _ (List.mem_map.mpr ⟨r, h, rfl⟩)
theorem mem_runsG {t : Kg46.State} {g : Kg46.Great} (h : g ∈ t.greats) : (g.page, g.pages) ∈ runsT t := List.mem_append_right _ (List.mem_map.mpr ⟨g, h, rfl⟩)
theorem smalls_nd {t : Kg46.State} (h : Apart (runsT t)) : (t.smalls.map Kg46.Small.page).Nodup := by
  have := h.nd
  unfold runsT at this
  rw [List.map_append, List.map_map] at this
  exact (List.nodup_append.mp this).1
theorem greats_nd {t : Kg46.State} (h : Apart (runsT t)) : (t.greats.map Kg46.Great.page).Nodup := by
  have := h.nd
  unfold runsT at this
  rw [List.map_append, List.map_map, List.map_map] at this
  exact (List.nodup_append.mp this).2.1
theorem small_great {t : Kg46.State} (h : Apart (runsT t)) {r : Kg46.Small} {g : Kg46.Great} (hr : r ∈ t.smalls) (hg : g ∈ t.greats) : r.page ≠ g.page := by
  have := h.nd
  unfold runsT at this
  rw [List.map_append, List.map_map, List.map_map] at this
  exact (List.nodup_append.mp this).2.2 _ (List.mem_map.mpr ⟨r, hr, rfl⟩) _ (List.mem_map.mpr ⟨g, hg, rfl⟩)
theorem nodup_eq {α : Type} {f : α → Nat} : ∀ {l : List α}, (l.map f).Nodup → ∀ {x y : α}, x ∈ l → y ∈ l → f x = f y → x = y
  | [], _, _, _, h, _, _ => by cases h
  | z :: l, hn, x, y, hx, hy, e => by
    rw [List.map_cons, List.nodup_cons] at hn
    rcases List.mem_cons.mp hx with h1 | h1
    · rcases List.mem_cons.mp hy with h2 | h2
      · rw [h1, h2]
      · exact absurd (List.mem_map.mpr ⟨y, h2, by rw [← e, h1]⟩) hn.1
    · rcases List.mem_cons.mp hy with h2 | h2
      · exact absurd (List.mem_map.mpr ⟨x, h1, by rw [e, h2]⟩) hn.1
      · exact nodup_eq hn.2 h1 h2 e
/-- a byte of one small run's block lies in no other run -/
theorem keyS_page {t : Kg46.State} (h : Apart (runsT t)) (hs : ∀ r ∈ t.smalls, SOk r) {r : Kg46.Small} (hr : r ∈ t.smalls) {u : Nat × Nat} (hu : u ∈ r.used) {x : Nat × Nat} (hx : x ∈ runsT t) (h1 : x.1 * 4096 ≤ keyS r u) (h2 : keyS r u < (x.1 + x.2) * 4096) : x = (r.page, rp r) := by
  obtain ⟨a, b⟩ := key_in (hs r hr) ((hs r hr).lt u hu)
  have hz : 0 < sz r := by
    have := (size_facts r.kind (hs r hr).kind).1
    unfold sz
    omega
  exact h.same x hx _ (mem_runsS hr) (keyS r u / 4096) (by omega) (by omega) (by show r.page ≤ _; omega) (by show _ < r.page + rp r; omega)
theorem keyS_inj {r : Kg46.Small} (h : SOk r) {u v : Nat × Nat} (e : keyS r u = keyS r v) : u.1 = v.1 := by
  unfold keyS at e
  have hz : 0 < sz r := by
    have := (size_facts r.kind h.kind).1
    unfold sz
    omega
  have : u.1 * sz r = v.1 * sz r := by omega
  exact Nat.eq_of_mul_eq_mul_right hz this
theorem ups_nd {u : List (Nat × Nat)} (h : Ups u) : (u.map (·.1)).Nodup := by
  have := dis_nodup h
  rw [List.map_map] at this
  exact this
theorem keys_nodup {t : Kg46.State} (h : Apart (runsT t)) (hs : ∀ r ∈ t.smalls, SOk r) : ((allB t).map (·.1)).Nodup := by
  unfold allB
  rw [List.map_append, List.map_flatMap, List.map_map]
  refine List.nodup_append.mpr ⟨?_, ?_, ?_⟩
  · unfold List.Nodup
    rw [List.pairwise_flatMap]
    constructor
    · intro r hr
      rw [List.map_map]
      have hn := ups_nd (hs r hr).ups
      rw [List.pairwise_map]
      rw [List.Nodup, List.pairwise_map] at hn
      exact hn.imp fun hne e => hne (keyS_inj (hs r hr) (by
        have e : (keyS r _ : Int) = (keyS r _ : Int) := e
        omega))
    · have hn := smalls_nd h
      rw [List.Nodup, List.pairwise_map] at hn
      refine hn.imp_of_mem fun {a b} ha hb hne => ?_
      intro x hx y hy e
      rw [List.map_map] at hx hy
      obtain ⟨u, hu, rfl⟩ := List.mem_map.mp hx
      obtain ⟨v, hv, rfl⟩ := List.mem_map.mp hy
      have e : (keyS a u : Int) = (keyS b v : Int) := e
      have e : keyS a u = keyS b v := by omega
      obtain ⟨p1, p2⟩ := key_in (hs b hb) ((hs b hb).lt v hv)
      have hz : 0 < sz b := by
        have := (size_facts b.kind (hs b hb).kind).1
        unfold sz
        omega
      have := keyS_page h hs ha hu (mem_runsS hb) (by show b.page * 4096 ≤ _; omega) (by show _ < (b.page + rp b) * 4096; omega)
      exact hne (congrArg Prod.fst this).symm
  · have hn := greats_nd h
    rw [List.Nodup, List.pairwise_map] at hn ⊢
    exact hn.imp fun hne e => hne (by
      have e : ((_ * 4096 : Nat) : Int) = ((_ * 4096 : Nat) : Int) := e
      omega)
  · intro a ha b hb e
    obtain ⟨r, hr, ha⟩ := List.mem_flatMap.mp ha
    rw [List.map_map] at ha
    obtain ⟨u, hu, rfl⟩ := List.mem_map.mp ha
    obtain ⟨g, hg, rfl⟩ := List.mem_map.mp hb
    have e : (keyS r u : Int) = ((g.page * 4096 : Nat) : Int) := e
    have e : keyS r u = g.page * 4096 := by omega
    have hp := h.pos _ (mem_runsG hg)
    have hp : 0 < g.pages := hp
    have := keyS_page h hs hr hu (mem_runsG hg) (by show g.page * 4096 ≤ _; omega) (by show _ < (g.page + g.pages) * 4096; omega)
    exact small_great h hr hg (congrArg Prod.fst this).symm
theorem RelB.keys {B : MBlocks} {t : Kg46.State} (R : RelB B t) : (B.blocks.map (·.1)).Nodup := (R.blocks.map (·.1)).nodup_iff.mpr (keys_nodup R.apart R.sok)
theorem RelB.lookB {B : MBlocks} {t : Kg46.State} (R : RelB B t) {x : Int × MBlock} (h : x ∈ allB t) : look B.blocks x.1 = some x.2 := look_of_mem R.keys (R.blocks.mem_iff.mpr h)
theorem look_runs {l : List Kg46.Small} (hn : (l.map Kg46.Small.page).Nodup) {r : Kg46.Small} (h : r ∈ l) : look (l.map fun r => ((r.page : Int), mrun r)) (r.page : Int) = some (mrun r) := by
  refine look_of_mem ?_ (List.mem_map.mpr ⟨r, h, rfl⟩)
  rw [List.map_map]
  have : (l.map ((fun x : Int × MRun => x.1) ∘ fun r => ((r.page : Int), mrun r))) = (l.map Kg46.Small.page).map fun (n : Nat) => (n : Int) := by
    rw [List.map_map]
    rfl
  rw [this]
  exact hn.map (fun n : Nat => (n : Int)) fun a b h hab => h (by omega)
theorem look_runs_none {l : List Kg46.Small} {p : Nat} (h : p ∉ l.map Kg46.Small.page) : look (l.map fun r => ((r.page : Int), mrun r)) (p : Int) = none := by
  refine key_none_look fun q => h ?_
  rw [List.map_map] at q
  obtain ⟨r, hr, e⟩ := List.mem_map.mp q
  have e : (r.page : Int) = (p : Int) := e
  exact List.mem_map.mpr ⟨r, hr, by omega⟩
/-! #### bounds -/
theorem count_le {l : List (Nat × Nat)} {N : Nat} (hd : Dis 0 l) (h : ∀ i, cov l i → i < N) : Kg45.count l ≤ N := by
  have := count_range' hd (Nat.zero_le N) h
  rw [← this, Nat.sub_zero]
  exact Nat.le_trans (List.length_filter_le _ _) (by rw [List.length_range']; exact Nat.le_refl _)
theorem sum_perm : ∀ {l m : List Nat}, l.Perm m → l.sum = m.sum
  | _, _, .nil => rfl
  | _, _, .cons x h => by rw [List.sum_cons, List.sum_cons, sum_perm h]
  | _, _, .swap x y l => by
    rw [List.sum_cons, List.sum_cons, List.sum_cons, List.sum_cons]
    omega
  | _, _, .trans h1 h2 => (sum_perm h1).trans (sum_perm h2)
theorem sumI_perm : ∀ {l m : List Int}, l.Perm m → l.sum = m.sum
  | _, _, .nil => rfl
  | _, _, .cons x h => by rw [List.sum_cons, List.sum_cons, sumI_perm h]
  | _, _, .swap x y l => by
    rw [List.sum_cons, List.sum_cons, List.sum_cons, List.sum_cons]
    omega
  | _, _, .trans h1 h2 => (sumI_perm h1).trans (sumI_perm h2)
theorem used_len {r : Kg46.Small} (h : SOk r) : r.used.length ≤ 256 * rp r := by
  have h1 := used_count h.ups h.lt
  have h2 : r.used.length ≤ r.places := by
    rw [← h1]
    exact Nat.le_trans (List.length_filter_le _ _) (by rw [List.length_range]; exact Nat.le_refl _)
  obtain ⟨a, _⟩ := size_facts r.kind h.kind
  have h3 : r.places * sz r ≤ rp r * 4096 := Nat.div_mul_le_self _ _
  have h4 : r.places * 16 ≤ r.places * sz r := Nat.mul_le_mul_left _ a
  omega
theorem RelB.len {B : MBlocks} {t : Kg46.State} (R : RelB B t) : B.blocks.length ≤ 4194304 ∧ B.runs.length ≤ 16384 := by
  obtain ⟨s, _, RP, hp⟩ := R.pg
  have hc : Kg45.count (runsT t) ≤ 16384 := by
    have h1 := count_le RP.mrk.dis fun i q => RP.mrk.lt2 q
    have h2 : Kg45.count (rr s.runs) = Kg45.count (runsT t) := sum_perm (hp.map _)
    have := RP.len
    omega
  have hA := apart_of RP.mrk.dis hp
  have e : Kg45.count (runsT t) = (t.smalls.map rp).sum + (t.greats.map Kg46.Great.pages).sum := by
    unfold Kg45.count runsT
    rw [List.map_append, List.sum_append, List.map_map, List.map_map]
    rfl
  have h1 : (t.smalls.flatMap fun r => r.used.map (blkS r)).length ≤ 256 * (t.smalls.map rp).sum := by
    have := R.sok
    generalize t.smalls = l at this
    induction l with
    | nil => exact Nat.le_refl _
    | cons r l ih =>
      rw [List.flatMap_cons, List.length_append, List.length_map, List.map_cons, List.sum_cons]
      have a := used_len (this r List.mem_cons_self)
      have b := ih fun x hx => this x (List.mem_cons_of_mem _ hx)
      omega
  have h2 : t.greats.length ≤ (t.greats.map Kg46.Great.pages).sum := by
    have : ∀ g ∈ t.greats, 0 < g.pages := fun g hg => hA.pos _ (mem_runsG hg)
    generalize t.greats = l at this
    induction l with
    | nil => exact Nat.le_refl _
    | cons g l ih =>
      rw [List.length_cons, List.map_cons, List.sum_cons]
      have a := this g List.mem_cons_self
      have b := ih fun x hx => this x (List.mem_cons_of_mem _ hx)
      omega
  have h3 : t.smalls.length ≤ (t.smalls.map rp).sum := by
    have : ∀ r ∈ t.smalls, 0 < rp r := fun r hr => hA.pos _ (mem_runsS hr)
    generalize t.smalls = l at this
    induction l with
    | nil => exact Nat.le_refl _
    | cons g l ih =>
      rw [List.length_cons, List.map_cons, List.sum_cons]
      have a := this g List.mem_cons_self
      have b := ih fun x hx => this x (List.mem_cons_of_mem _ hx)
      omega
  have hb := R.blocks.length_eq
  unfold allB at hb
  rw [List.length_append, List.length_map] at hb
  have hr : B.runs.length = t.smalls.length := by rw [R.runs, List.length_map]
  omega
end GK
end
section
set_option linter.all false
set_option maxRecDepth 100000
namespace GK
theorem isort_uniq {ys ks : List Int} (h : ys.Perm ks) (s : ys.Pairwise (· ≤ ·)) : ys = isort ks := by
  have p2 : (isort ks).Perm ks := List.mergeSort_perm _ _
  have s2 : (isort ks).Pairwise (· ≤ ·) := by
    have q := List.pairwise_mergeSort (le := fun a b : Int => decide (a ≤ b)) (fun a b c h1 h2 => by
      have h1 := of_decide_eq_true h1
      have h2 := of_decide_eq_true h2
      exact decide_eq_true (by omega)) (fun a b => by
      by_cases h : a ≤ b
      · rw [decide_eq_true h]; rfl
      · rw [decide_eq_true (show b ≤ a by omega), Bool.or_true]) ks
    exact q.imp fun h => of_decide_eq_true h
  exact (h.trans p2.symm).eq_of_pairwise (fun a b _ _ h1 h2 => by omega) s s2
theorem isort_perm (l : List Int) : (isort l).Perm l := List.mergeSort_perm _ _
theorem isort_sorted (l : List Int) : (isort l).Pairwise (· ≤ ·) := by
  have q := List.pairwise_mergeSort (le := fun a b : Int => decide (a ≤ b)) (fun a b c h1 h2 => by
    have h1 := of_decide_eq_true h1
    have h2 := of_decide_eq_true h2
    exact decide_eq_true (by omega)) (fun a b => by
    by_cases h : a ≤ b
    · rw [decide_eq_true h]; rfl
    · rw [decide_eq_true (show b ≤ a by omega), Bool.or_true]) l
  exact q.imp fun h => of_decide_eq_true h
theorem lowest_go : ∀ (l : List Kg46.Small) (o : Option Kg46.Small), (∃ y, o = some y) ∨ l ≠ [] → ∃ r, (l.foldl (fun b x => match b with
    | none => some x
    | some y => if x.page < y.page then some x else b) o) = some r ∧ (r ∈ l ∨ o = some r) ∧ (∀ x ∈ l, r.page ≤ x.page) ∧ ∀ y, o = some y → r.page ≤ y.page
  | [], o, h => by
    rcases h with ⟨y, rfl⟩ | h
    · exact ⟨y, rfl, .inr rfl, fun x hx => (by cases hx), fun z e => by cases e; exact Nat.le_refl _⟩
    · exact absurd rfl h
  | x :: l, none, h => by
    obtain ⟨r, h1, h2, h3, h4⟩ := lowest_go l (some x) (.inl ⟨x, rfl⟩)
    refine ⟨r, h1, .inl ?_, fun z hz => ?_, fun y e => by cases e⟩
    · rcases h2 with h2 | h2
      · exact List.mem_cons_of_mem _ h2
      · cases h2
        exact List.mem_cons_self
    · rcases List.mem_cons.mp hz with rfl | hz
      · exact h4 _ rfl
      · exact h3 z hz
  | x :: l, some y, h => by
    rw [List.foldl_cons]
    by_cases c : x.page < y.page
    · obtain ⟨r, h1, h2, h3, h4⟩ := lowest_go l (some x) (.inl ⟨x, rfl⟩)
      refine ⟨r, ?_, .inl ?_, fun z hz => ?_, fun w e => ?_⟩
      · show List.foldl _ (if x.page < y.page then some x else some y) l = _
        rw [if_pos c]
        exact h1
      · rcases h2 with h2 | h2
        · exact List.mem_cons_of_mem _ h2
        · cases h2
          exact List.mem_cons_self
      · rcases List.mem_cons.mp hz with rfl | hz
        · exact h4 _ rfl
        · exact h3 z hz
      · cases e
        have := h4 x rfl
        omega
    · obtain ⟨r, h1, h2, h3, h4⟩ := lowest_go l (some y) (.inl ⟨y, rfl⟩)
      refine ⟨r, ?_, ?_, fun z hz => ?_, fun w e => ?_⟩
      · show List.foldl _ (if x.page < y.page then some x else some y) l = _
        rw [if_neg c]
        exact h1
      · rcases h2 with h2 | h2
        · exact .inl (List.mem_cons_of_mem _ h2)
        · exact .inr h2
      · rcases List.mem_cons.mp hz with rfl | hz
        · have := h4 y rfl
          omega
        · exact h3 z hz
      · exact h4 w e
def roomy (l : List Kg46.Small) (k : Nat) : List Kg46.Small := l.filter fun r => r.kind == k && !r.full
theorem room_eq {l : List Kg46.Small} (hn : (l.map Kg46.Small.page).Nodup) (hs : ∀ r ∈ l, SOk r) {k : Nat} (hk : k < 40) : runsWithRoom (l.map fun r => ((r.page : Int), mrun r)) (Kg46.sizeAt k : Int) = isort ((roomy l k).map fun r => (r.page : Int)) := by
  unfold runsWithRoom
  refine isort_uniq ?_ ((isort_sorted _).filter _)
  refine ((isort_perm _).filter _).trans ?_
  rw [List.map_map]
  unfold roomy
  rw [List.filter_map]
  refine List.Perm.of_eq ?_
  have : ∀ r ∈ l, ((fun f => match look (l.map fun r => ((r.page : Int), mrun r)) f with
      | some r => decide (r.small = (Kg46.sizeAt k : Int)) && r.hasFree
      | none => false) ∘ ((fun x : Int × MRun => x.1) ∘ fun r : Kg46.Small => ((r.page : Int), mrun r))) r = (r.kind == k && !r.full) := fun r hr => by
    show (match look (l.map fun r => ((r.page : Int), mrun r)) (r.page : Int) with
      | some r => decide (r.small = (Kg46.sizeAt k : Int)) && r.hasFree
      | none => false) = _
    rw [look_runs hn hr]
    show (decide ((sz r : Int) = (Kg46.sizeAt k : Int)) && (mrun r).hasFree) = _
    rw [hasFree_eq (hs r hr)]
    congr 1
    rw [Bool.eq_iff_iff, decide_eq_true_eq, beq_iff_eq]
    constructor
    · intro h
      exact sizes_inj _ (hs r hr).kind _ hk (by unfold sz at h; omega)
    · intro h
      unfold sz
      rw [h]
  exact congrArg (List.map fun r : Kg46.Small => (r.page : Int)) (List.filter_congr this)
/-- the lowest with room -/
theorem room_head {l : List Kg46.Small} (hn : (l.map Kg46.Small.page).Nodup) (hs : ∀ r ∈ l, SOk r) {k : Nat} (hk : k < 40) : (runsWithRoom (l.map fun r => ((r.page : Int), mrun r)) (Kg46.sizeAt k : Int) = [] ∧ Kg46.lowest (roomy l k) = none) ∨
    ∃ r fs, r ∈ l ∧ r.kind = k ∧ r.full = false ∧ Kg46.lowest (roomy l k) = some r ∧ runsWithRoom (l.map fun r => ((r.page : Int), mrun r)) (Kg46.sizeAt k : Int) = (r.page : Int) :: fs := by
  rw [room_eq hn hs hk]
  cases e : roomy l k with
  | nil => exact .inl ⟨by unfold isort; simp, rfl⟩
  | cons x xs =>
    right
    obtain ⟨r, h1, h2, h3, _⟩ := lowest_go (roomy l k) none (.inr (by rw [e]; exact List.cons_ne_nil _ _))
    have hm : r ∈ roomy l k := h2.elim id fun q => by cases q
    have hf := List.mem_filter.mp hm
    have hkf : r.kind = k ∧ r.full = false := by
      have := hf.2
      simp only [Bool.and_eq_true, beq_iff_eq, Bool.not_eq_true'] at this
      exact this
    rw [e] at h1 h3 hm
    cases e2 : isort ((x :: xs).map fun r => (r.page : Int)) with
    | nil =>
      have := (isort_perm ((x :: xs).map fun r => (r.page : Int))).length_eq
      rw [e2] at this
      simp at this
    | cons f fs =>
      refine ⟨r, fs, hf.1, hkf.1, hkf.2, h1, ?_⟩
      have hs2 := isort_sorted ((x :: xs).map fun r => (r.page : Int))
      have hp2 := isort_perm ((x :: xs).map fun r => (r.page : Int))
      rw [e2] at hs2 hp2
      have hr : (r.page : Int) ∈ f :: fs := hp2.mem_iff.mpr (List.mem_map.mpr ⟨r, hm, rfl⟩)
      have hfm : f ∈ (x :: xs).map fun r => (r.page : Int) := hp2.mem_iff.mp List.mem_cons_self
      obtain ⟨y, hy, ey⟩ := List.mem_map.mp hfm
      have h4 := h3 y hy
      have h5 : f ≤ (r.page : Int) := by
        rcases List.mem_cons.mp hr with q | q
        · omega
        · exact (List.pairwise_cons.mp hs2).1 _ q
      have : f = (r.page : Int) := by omega
      rw [this]
/-! #### a block is put in a run's lowest free place -/
def byte46 (t : Kg46.State) (j : Nat) : Nat := byte45 t.pages j
theorem mrun_used {r : Kg46.Small} (h : SOk r) {i n : Nat} (hi : usedAt r.used i = false) (hlt : i < r.places) : mrun { r with used := Kg46.insertUsed r.used (i, n) } = { mrun r with used := (mrun r).used.set i true } := by
  obtain ⟨_, hp⟩ := insertUsed_ok (x := (i, n)) h.ups (Nat.zero_le _) hi
  have e : (List.range r.places).map (usedAt (Kg46.insertUsed r.used (i, n))) = ((List.range r.places).map (usedAt r.used)).set i true := by
    refine List.ext_getElem (by simp) fun j h1 h2 => ?_
    rw [List.getElem_map, List.getElem_range, List.getElem_set, List.getElem_map, List.getElem_range, usedAt_perm hp, usedAt_cons]
    by_cases c : i = j
    · rw [if_pos c, c]
      simp
    · rw [if_neg c]
      have : ((i : Nat) == j) = false := by simpa using c
      show (i == j || _) = _
      rw [this, Bool.false_or]
  unfold mrun
  show (⟨(r.page : Int), (sz r : Int), (rp r : Int), (List.range r.places).map (usedAt (Kg46.insertUsed r.used (i, n)))⟩ : MRun) = _
  rw [e]
theorem put_runs {l : List Kg46.Small} (hn : (l.map Kg46.Small.page).Nodup) {r r' : Kg46.Small} (hr : r ∈ l) (hp : r'.page = r.page) : put (l.map fun r => ((r.page : Int), mrun r)) (r.page : Int) (mrun r') = (l.map fun x => if x.page = r'.page then r' else x).map fun r => ((r.page : Int), mrun r) := by
  rw [put_map (look_runs hn hr), List.map_map, List.map_map]
  refine List.map_congr_left fun x hx => ?_
  show (if (x.page : Int) = (r.page : Int) then ((x.page : Int), mrun r') else ((x.page : Int), mrun x)) = (((if x.page = r'.page then r' else x).page : Int), mrun (if x.page = r'.page then r' else x))
  by_cases c : x.page = r.page
  · rw [if_pos (by omega), if_pos (by omega), c, hp]
  · rw [if_neg (by omega), if_neg (by omega)]
end GK
end
section
set_option linter.all false
set_option maxRecDepth 100000
namespace GK
theorem fin_below (A : MAsks) (s : Kg46.State) (c : Kg45.Call) (f : Kg46.State → Kg45.Ans → Kg46.Prog Kg46.Ans) : fin o45 A (Kg46.below s c f) = fin o45 ⟨A.ans, (fin o45 A (Kg45.spec s.pages c)).2.2⟩ (f { s with pages := (fin o45 A (Kg45.spec s.pages c)).1 } (fin o45 A (Kg45.spec s.pages c)).2.1) := by
  unfold Kg46.below
  rw [fin_andThen, fin_within (out := o45) (out' := o45) (name := id) (fun q => rfl) (fun b p => by
    funext p2
    cases b with
    | none => rfl
    | some t => rfl) (Kg45.spec s.pages c) A (some s) (fun p => rfl)]
  rfl
theorem inRun_of {s : Kg45.State} {t : Kg46.State} (hp : (rr s.runs).Perm (runsT t)) {x : Nat × Nat} (hx : x ∈ runsT t) {lo hi : Nat} (h1 : x.1 * 4096 ≤ lo) (h2 : hi ≤ (x.1 + x.2) * 4096) : InRun (rr s.runs) lo hi := ⟨x, hp.mem_iff.mpr hx, h1, h2⟩
theorem with_runsT (l : List Kg46.Small) (r r' : Kg46.Small) (hp : r'.page = r.page) (hk : r'.kind = r.kind) (hn : (l.map Kg46.Small.page).Nodup) (hr : r ∈ l) : (l.map fun x => if x.page = r'.page then r' else x).map (fun r => (r.page, rp r)) = l.map fun r => (r.page, rp r) := by
  rw [List.map_map]
  refine List.map_congr_left fun x hx => ?_
  show ((if x.page = r'.page then r' else x).page, rp (if x.page = r'.page then r' else x)) = (x.page, rp x)
  by_cases c : x.page = r'.page
  · have e := nodup_eq hn hx hr (by rw [c, hp])
    rw [if_pos c, e, hp]
    unfold rp
    rw [hk]
  · rw [if_neg c]
theorem with_flat : ∀ (l : List Kg46.Small) (r r' : Kg46.Small) (x : Int × MBlock), (l.map Kg46.Small.page).Nodup → r ∈ l → r'.page = r.page → (r'.used.map (blkS r')).Perm (x :: r.used.map (blkS r)) →
    ((l.map fun x => if x.page = r'.page then r' else x).flatMap fun r => r.used.map (blkS r)).Perm (x :: l.flatMap fun r => r.used.map (blkS r))
  | [], _, _, _, _, h, _, _ => by cases h
  | y :: l, r, r', x, hn, hr, hp, h => by
    rw [List.map_cons] at hn
    rw [List.nodup_cons] at hn
    rw [List.map_cons, List.flatMap_cons, List.flatMap_cons]
    by_cases c : y.page = r'.page
    · have e : r = y := nodup_eq (l := y :: l) (f := Kg46.Small.page) (by rw [List.map_cons, List.nodup_cons]; exact hn) hr List.mem_cons_self (by rw [c, hp])
      subst e
      rw [if_pos c]
      have : (l.map fun x => if x.page = r'.page then r' else x) = l := by
        conv => rhs; rw [← List.map_id l]
        refine List.map_congr_left fun z hz => if_neg fun q => hn.1 (List.mem_map.mpr ⟨z, hz, by rw [q, hp]⟩)
      rw [this]
      exact (h.append_right _)
    · have hrl : r ∈ l := by
        rcases List.mem_cons.mp hr with q | q
        · exact absurd (by rw [hp, q]) c
        · exact q
      rw [if_neg c]
      exact ((with_flat l r r' x hn.2 hrl hp h).append_left _).trans List.perm_middle
/-- a place in a run with room -/
theorem placed_sim {B : MBlocks} {t : Kg46.State} {r : Kg46.Small} {n : Nat} (R : RelB B t) (hr : r ∈ t.smalls) (hf : r.full = false) (hn : n ≤ sz r) :
    ∃ B', (∀ A : MAsks, ((look B.runs (r.page : Int)).bind fun m => (m.used.findIdx? fun b => !b).bind fun k => if B.blocks.length < LIM ∧ (look B.blocks (m.placeAt k)).isSome = false ∧ 0 ≤ m.small ∧ m.small ≤ 1000000 then
        some (A, { B with runs := put B.runs (r.page : Int) { m with used := m.used.set k true }, blocks := B.blocks ++ [(m.placeAt k, (⟨(n : Int), some (r.page : Int)⟩ : MBlock))] }, some (m.placeAt k)) else none) = some (A, B', some ((t.placed r n).2 : Int))) ∧
      RelB B' (t.placed r n).1 ∧ (allB (t.placed r n).1).Perm (((((t.placed r n).2 : Nat) : Int), (⟨(n : Int), some (r.page : Int)⟩ : MBlock)) :: allB t) ∧ runsT (t.placed r n).1 = runsT t ∧
      r.page * 4096 ≤ (t.placed r n).2 ∧ (t.placed r n).2 + n ≤ (r.page + rp r) * 4096 ∧ Puts (byte46 t) (byte46 (t.placed r n).1) (t.placed r n).2 (List.replicate n 0) := by
  have hs := R.sok r hr
  have hap := R.apart
  obtain ⟨fi1, fi2, fi3⟩ := free_idx hs hf
  let r' : Kg46.Small := { r with used := Kg46.insertUsed r.used (r.free, n) }
  obtain ⟨u1, u2⟩ := insertUsed_ok (x := (r.free, n)) hs.ups (Nat.zero_le _) fi2
  have hpl : (t.placed r n).2 = keyS r (r.free, n) := rfl
  obtain ⟨k1, k2⟩ := key_in (u := (r.free, n)) hs fi3
  have hlook : look B.runs (r.page : Int) = some (mrun r) := by
    rw [R.runs]
    exact look_runs (smalls_nd hap) hr
  have hat : (mrun r).placeAt (r.free : Int) = (keyS r (r.free, n) : Int) := by
    show (r.page : Int) * 4096 + (r.free : Int) * (sz r : Int) = _
    unfold keyS
    show _ = ((r.page * 4096 + r.free * sz r : Nat) : Int)
    rw [Int.natCast_add, Int.natCast_mul, Int.natCast_mul]
    rfl
  obtain ⟨z1, z2, z3, z4, z5, z6, z7⟩ := size_facts r.kind hs.kind
  have hz : 0 < sz r := by
    unfold sz
    omega
  have hfresh : look B.blocks (keyS r (r.free, n) : Int) = none := by
    refine key_none_look fun q => ?_
    have q := (R.blocks.map (·.1)).mem_iff.mp q
    obtain ⟨x, hx, ex⟩ := List.mem_map.mp q
    rcases List.mem_append.mp hx with hx | hx
    · obtain ⟨y, hy, hx⟩ := List.mem_flatMap.mp hx
      obtain ⟨u, hu, rfl⟩ := List.mem_map.mp hx
      have ex : (keyS y u : Int) = (keyS r (r.free, n) : Int) := ex
      have ex : keyS y u = keyS r (r.free, n) := by omega
      have := keyS_page hap R.sok hy hu (mem_runsS hr) (by show r.page * 4096 ≤ _; omega) (by show _ < (r.page + rp r) * 4096; omega)
      have e2 : y = r := nodup_eq (smalls_nd hap) hy hr (congrArg Prod.fst this).symm
      subst e2
      have e3 := keyS_inj hs ex
      have : usedAt y.used y.free = true := by
        unfold usedAt
        refine List.any_eq_true.mpr ⟨u, hu, ?_⟩
        rw [e3]
        simp
      rw [fi2] at this
      cases this
    · obtain ⟨g, hg, rfl⟩ := List.mem_map.mp hx
      have ex : ((g.page * 4096 : Nat) : Int) = (keyS r (r.free, n) : Int) := ex
      have hgp : 0 < g.pages := hap.pos _ (mem_runsG hg)
      have := hap.same _ (mem_runsG hg) _ (mem_runsS hr) g.page (Nat.le_refl _) (by show g.page < g.page + g.pages; omega) (by show r.page ≤ _; omega) (by show g.page < r.page + rp r; omega)
      exact small_great hap hr hg (congrArg Prod.fst this).symm
  obtain ⟨s, es, RP, hp⟩ := R.pg
  have hin : InRun (rr s.runs) (keyS r (r.free, n)) (keyS r (r.free, n) + n) := inRun_of hp (mem_runsS hr) k1 (by show _ ≤ (r.page + rp r) * 4096; omega)
  obtain ⟨⟨s2, es2, RP2, er2⟩, hputs⟩ := putAt45 (h := t.pages) (at_ := keyS r (r.free, n)) (b := List.replicate n 0) hin ⟨s, es, RP, rfl⟩ (Nat.le_refl _) (by rw [List.length_replicate]; exact Nat.le_refl _) (fun x hx => by
    have := List.eq_of_mem_replicate hx
    omega)
  have hpages : (t.placed r n).1.pages = Kg46.putAt t.pages (keyS r (r.free, n)) (List.replicate n 0) := wiped_eq _ _ _
  have hsm : (t.placed r n).1.smalls = t.smalls.map fun x => if x.page = r'.page then r' else x := rfl
  have hgr : (t.placed r n).1.greats = t.greats := rfl
  have hruns : runsT (t.placed r n).1 = runsT t := by
    unfold runsT
    rw [hsm, hgr, with_runsT t.smalls r r' rfl rfl (smalls_nd hap) hr]
  have hall : (allB (t.placed r n).1).Perm ((((keyS r (r.free, n) : Nat) : Int), (⟨(n : Int), some (r.page : Int)⟩ : MBlock)) :: allB t) := by
    unfold allB
    rw [hsm, hgr]
    exact ((with_flat t.smalls r r' (((keyS r (r.free, n) : Nat) : Int), ⟨(n : Int), some (r.page : Int)⟩) (smalls_nd hap) hr rfl (u2.map (blkS r))).append_right _)
  refine ⟨{ B with runs := put B.runs (r.page : Int) { mrun r with used := (mrun r).used.set r.free true }, blocks := B.blocks ++ [((keyS r (r.free, n) : Int), (⟨(n : Int), some (r.page : Int)⟩ : MBlock))] }, fun A => ?_, ⟨⟨s2, by rw [hpages, es2], RP2, by rw [er2, hruns]; exact hp⟩, ?_, ?_, fun x hx => ?_, fun g hg => R.gok g hg⟩, by rw [hpl]; exact hall, hruns, by rw [hpl]; exact k1, by rw [hpl]; omega, ?_⟩
  · rw [hlook]
    show (((mrun r).used.findIdx? fun b => !b).bind _) = _
    rw [fi1]
    show (if B.blocks.length < LIM ∧ (look B.blocks ((mrun r).placeAt (r.free : Int))).isSome = false ∧ 0 ≤ (sz r : Int) ∧ (sz r : Int) ≤ 1000000 then _ else _) = _
    rw [hat, hfresh, if_pos ⟨Nat.lt_of_le_of_lt R.len.1 (by decide), rfl, by omega, by unfold sz; omega⟩]
    rfl
  · show put B.runs (r.page : Int) { mrun r with used := (mrun r).used.set r.free true } = _
    rw [hsm, ← mrun_used hs fi2 fi3, R.runs]
    exact put_runs (smalls_nd hap) hr rfl
  · refine List.Perm.trans ?_ hall.symm
    exact (List.perm_append_comm).trans (R.blocks.cons _)
  · rw [hsm] at hx
    obtain ⟨y, hy, rfl⟩ := List.mem_map.mp hx
    by_cases c : y.page = r'.page
    · rw [if_pos c]
      refine ⟨hs.kind, u1, fun u hu => ?_, fun u hu => ?_⟩
      · rcases List.mem_cons.mp (u2.mem_iff.mp hu) with rfl | h
        · exact fi3
        · exact hs.lt u h
      · rcases List.mem_cons.mp (u2.mem_iff.mp hu) with rfl | h
        · exact hn
        · exact hs.fit u h
    · rw [if_neg c]
      exact R.sok y hy
  · unfold byte46
    rw [hpages]
    exact hputs
end GK
end
section
set_option linter.all false
set_option maxRecDepth 100000
namespace GK
theorem size_facts2 : ∀ k, k < 40 → ((Kg46.runPages (Kg46.sizeAt k) : Int) * 4096).fdiv (Kg46.sizeAt k : Int) = ((Kg46.runPages (Kg46.sizeAt k) * 4096 / Kg46.sizeAt k : Nat) : Int) ∧ Kg46.runPages (Kg46.sizeAt k) * 4096 / Kg46.sizeAt k ≤ 1000000 := by decide +kernel
theorem new_run {p k : Nat} (hk : k < 40) : MRun.new (p : Int) (Kg46.sizeAt k : Int) = some (mrun ⟨p, k, []⟩) := by
  obtain ⟨a, b⟩ := size_facts2 k hk
  unfold MRun.new
  rw [(size_facts k hk).2.2.2.2.2.2]
  show (if ((Kg46.runPages (Kg46.sizeAt k) : Int) * 4096).fdiv (Kg46.sizeAt k : Int) ≤ 1000000 then some (⟨(p : Int), (Kg46.sizeAt k : Int), (Kg46.runPages (Kg46.sizeAt k) : Int), List.replicate (((Kg46.runPages (Kg46.sizeAt k) : Int) * 4096).fdiv (Kg46.sizeAt k : Int)).toNat false⟩ : MRun) else none) = _
  rw [a, if_pos (by omega), Int.toNat_natCast]
  unfold mrun
  have e : (List.range (Kg46.Small.places ⟨p, k, []⟩)).map (usedAt []) = List.replicate (Kg46.runPages (Kg46.sizeAt k) * 4096 / Kg46.sizeAt k) false := by
    refine List.ext_getElem (by simp [Kg46.Small.places, Kg46.PAGE]) fun i h1 h2 => ?_
    simp [usedAt]
  show some _ = some (⟨(p : Int), (Kg46.sizeAt k : Int), (Kg46.runPages (Kg46.sizeAt k) : Int), (List.range (Kg46.Small.places ⟨p, k, []⟩)).map (usedAt [])⟩ : MRun)
  rw [e]
theorem pagesOf_eq (n : Nat) (h : 1 ≤ n) : pagesOf (n : Int) = (Kg46.pagesFor n : Int) := by
  unfold pagesOf Kg46.pagesFor
  have e : Kg46.PAGE = 4096 := rfl
  rw [e, show (n : Int) + 4096 - 1 = ((max n 1 + 4096 - 1 : Nat) : Int) by omega]
  rfl
/-- the bytes of the runs that were there stay when a run is put in -/
theorem bytes_insert {l : List Kg45.Run} {r : Kg45.Run} (hd : Dis 0 (rr l)) (hd' : Dis 0 (rr (Kg45.insert l r))) (hp : (Kg45.insert l r).Perm (r :: l)) {x : Nat × Nat} (hx : x ∈ rr l) {j : Nat} (h1 : x.1 * 4096 ≤ j) (h2 : j < (x.1 + x.2) * 4096) : byteR (Kg45.insert l r) j = byteR l j := by
  obtain ⟨y, hy, rfl⟩ := List.mem_map.mp hx
  rw [byteR_in hd' (hp.mem_iff.mpr (List.mem_cons_of_mem _ hy)) h1 h2, byteR_in hd hy h1 h2]
def InT (t : Kg46.State) (lo hi : Nat) : Prop := ∃ x ∈ runsT t, x.1 * 4096 ≤ lo ∧ hi ≤ (x.1 + x.2) * 4096
/-- what a taken block changes -/
structure TookB (t t' : Kg46.State) (q n : Nat) : Prop where
  all : ∃ run : Option Int, (allB t').Perm (((q : Int), (⟨(n : Int), run⟩ : MBlock)) :: allB t)
  inn : InT t' q (q + n)
  sub : ∀ x ∈ runsT t, x ∈ runsT t'
  bytes : ∀ j, ¬ (q ≤ j ∧ j < q + n) → InT t j (j + 1) → byte46 t' j = byte46 t j
/-- nothing but pages' sums is changed -/
structure SameB (t t' : Kg46.State) : Prop where
  smalls : t'.smalls = t.smalls
  greats : t'.greats = t.greats
  bytes : ∀ j, byte46 t' j = byte46 t j
theorem takeB_sim {A : MAsks} {B : MBlocks} {t : Kg46.State} {n e : Nat} {f : Kg46.State → Option Nat → Kg46.Prog Kg46.Ans} (R : RelB B t) (hn : 1 ≤ n) (hn2 : n ≤ 60000000) (he : e ≤ 12) (hb : (fin o45 A (Kg46.take t n e f)).2.2.length ≤ LIM) :
    ∃ A' B' t' r, B.take A (n : Int) ((2 ^ e : Nat) : Int) = some (A', B', r.map fun (q : Nat) => (q : Int)) ∧ A'.ans = A.ans ∧ RelB B' t' ∧ fin o45 A (Kg46.take t n e f) = fin o45 A' (f t' r) ∧ (r = none → SameB t t') ∧ ∀ q, r = some q → TookB t t' q n := by
  have hap := R.apart
  obtain ⟨s, es, RP, hp⟩ := R.pg
  have hmx : max n 1 = n := by omega
  unfold Kg46.take at hb ⊢
  rw [hmx] at hb ⊢
  unfold MBlocks.take
  rw [sizeFor_eq n (2 ^ e)]
  cases hk : Kg46.sizeFor n (2 ^ e) with
  | none =>
    rw [hk] at hb
    have hb : (fin o45 A (Kg46.below t (.take (Kg46.pagesFor n : Int) (Kg46.pageE e : Int) 4) fun t a => if a.value < 0 then f t none else f { t with greats := t.greats ++ [⟨a.value.toNat, Kg46.pagesFor n, n⟩] } (some (a.value.toNat * Kg46.PAGE)))).2.2.length ≤ LIM := hb
    show ∃ A' B' t' r, B.takeGreat A (n : Int) = _ ∧ _ ∧ _ ∧ fin o45 A (Kg46.below t (.take (Kg46.pagesFor n : Int) (Kg46.pageE e : Int) 4) fun t a => if a.value < 0 then f t none else f { t with greats := t.greats ++ [⟨a.value.toNat, Kg46.pagesFor n, n⟩] } (some (a.value.toNat * Kg46.PAGE))) = _ ∧ _
    have e0 : (Kg46.pageE e : Int) = 0 := by
      unfold Kg46.pageE
      omega
    rw [e0, fin_below, es] at hb
    rw [e0, fin_below, es]
    have hpf : 0 < Kg46.pagesFor n ∧ Kg46.pagesFor n ≤ 16384 ∧ n ≤ Kg46.pagesFor n * 4096 := by
      unfold Kg46.pagesFor
      have : Kg46.PAGE = 4096 := rfl
      rw [this, hmx]
      omega
    obtain ⟨A1, m1, s1, r1, h1, h2, h3, h4⟩ := take_sim RP hpf.1 hpf.2.1 (Nat.le_trans (fin_len o45 ⟨A.ans, _⟩ _) hb)
    unfold MBlocks.takeGreat
    rw [pagesOf_eq n hn, h1]
    rcases h4 with ⟨rfl, h5, h6⟩ | ⟨p, rfl, h5, h7, h8, h6⟩
    · rw [h6]
      refine ⟨A1, { B with pg := m1 }, { t with pages := some s1 }, none, rfl, h2, ?_, ?_, fun _ => ⟨rfl, rfl, fun j => ?_⟩, fun q h => by cases h⟩
      · exact ⟨⟨s1, rfl, h3, by rw [h5]; exact hp⟩, R.runs, R.blocks, R.sok, R.gok⟩
      · show fin o45 ⟨A.ans, A1.rows⟩ (if (-7 : Int) < 0 then _ else _) = _
        rw [if_pos (by decide), ← h2]
      · show byteR s1.runs j = byte45 t.pages j
        rw [h5, es]
        rfl
    · rw [h6]
      have hperm := (insert_ok (r := ⟨p, Kg46.pagesFor n, 4, []⟩) RP.mrk.dis hpf.1 (Nat.zero_le _) h7).2
      let t' : Kg46.State := { t with pages := some s1, greats := t.greats ++ [⟨p, Kg46.pagesFor n, n⟩] }
      have hrt : (runsT t').Perm ((p, Kg46.pagesFor n) :: runsT t) := by
        unfold runsT
        show (t.smalls.map _ ++ (t.greats ++ [_]).map _).Perm _
        rw [List.map_append, ← List.append_assoc]
        exact List.perm_append_comm
      have hrs : (rr s1.runs).Perm (runsT t') := by
        rw [h5]
        exact ((hperm.map _).trans (hp.cons _)).trans hrt.symm
      have hnew : look B.blocks ((p * 4096 : Nat) : Int) = none := by
        refine key_none_look fun q => ?_
        have q := (R.blocks.map (·.1)).mem_iff.mp q
        obtain ⟨x, hx, ex⟩ := List.mem_map.mp q
        have hcv : cov (runsT t) p → False := fun hc => h7 p (Nat.le_refl _) (by omega) ((cov_perm hp p).mpr hc)
        rcases List.mem_append.mp hx with hx | hx
        · obtain ⟨y, hy, hx⟩ := List.mem_flatMap.mp hx
          obtain ⟨u, hu, rfl⟩ := List.mem_map.mp hx
          have ex : (keyS y u : Int) = ((p * 4096 : Nat) : Int) := ex
          obtain ⟨a, b⟩ := key_in (R.sok y hy) ((R.sok y hy).lt u hu)
          have hz : 16 ≤ sz y := (size_facts y.kind (R.sok y hy).kind).1
          exact hcv ⟨_, mem_runsS hy, by show y.page ≤ p; omega, by show p < y.page + rp y; omega⟩
        · obtain ⟨g, hg, rfl⟩ := List.mem_map.mp hx
          have ex : ((g.page * 4096 : Nat) : Int) = ((p * 4096 : Nat) : Int) := ex
          have hgp : 0 < g.pages := hap.pos _ (mem_runsG hg)
          exact hcv ⟨_, mem_runsG hg, by show g.page ≤ p; omega, by show p < g.page + g.pages; omega⟩
      have hall : (allB t').Perm ((((p * 4096 : Nat) : Int), (⟨(n : Int), none⟩ : MBlock)) :: allB t) := by
        unfold allB
        show (t.smalls.flatMap _ ++ (t.greats ++ [_]).map _).Perm _
        rw [List.map_append, ← List.append_assoc]
        exact List.perm_append_comm
      refine ⟨A1, { B with pg := m1, blocks := B.blocks ++ [(((p * 4096 : Nat) : Int), (⟨(n : Int), none⟩ : MBlock))] }, t', some (p * 4096), ?_, h2, ?_, ?_, fun h => (by cases h), fun q hq => ?_⟩
      · show (if B.blocks.length < LIM ∧ (look B.blocks ((p : Int) * 4096)).isSome = false then some (A1, ({ B with pg := m1, blocks := B.blocks ++ [((p : Int) * 4096, ⟨(n : Int), none⟩)] } : MBlocks), some ((p : Int) * 4096)) else none) = _
        have ep : (p : Int) * 4096 = ((p * 4096 : Nat) : Int) := by omega
        rw [ep, hnew, if_pos ⟨Nat.lt_of_le_of_lt R.len.1 (by decide), rfl⟩]
        rfl
      · refine ⟨⟨s1, rfl, h3, hrs⟩, R.runs, ?_, R.sok, fun g hg => ?_⟩
        · exact ((List.perm_append_comm).trans (R.blocks.cons _)).trans hall.symm
        · rcases List.mem_append.mp hg with h | h
          · exact R.gok g h
          · have : g = ⟨p, Kg46.pagesFor n, n⟩ := by simpa using h
            rw [this]
      · show fin o45 ⟨A.ans, A1.rows⟩ (if (p : Int) < 0 then _ else f { t with pages := some s1, greats := t.greats ++ [⟨(p : Int).toNat, Kg46.pagesFor n, n⟩] } (some ((p : Int).toNat * Kg46.PAGE))) = _
        rw [if_neg (by omega), ← h2, Int.toNat_natCast]
        rfl
      · have hq : p * 4096 = q := Option.some.inj hq
        subst hq
        refine ⟨⟨none, hall⟩, ⟨_, hrt.mem_iff.mpr List.mem_cons_self, Nat.le_refl _, by show p * 4096 + n ≤ (p + Kg46.pagesFor n) * 4096; omega⟩, fun x hx => hrt.mem_iff.mpr (List.mem_cons_of_mem _ hx), fun j _ hj => ?_⟩
        obtain ⟨x, hx, x1, x2⟩ := hj
        show byteR s1.runs j = byte45 t.pages j
        rw [es, h5]
        exact bytes_insert RP.mrk.dis (by rw [← h5]; exact h3.mrk.dis) hperm (hp.mem_iff.mpr hx) x1 x2
  | some k =>
    obtain ⟨k1, k2, k3⟩ := sizeFor_lt hk
    rw [hk] at hb
    let P : Kg46.Prog Kg46.Ans := (match Kg46.lowest (roomy t.smalls k) with
      | some r => f (t.placed r n).1 (some (t.placed r n).2)
      | none => Kg46.below t (.take (Kg46.runPages (Kg46.sizeAt k) : Int) 0 4) fun t a => if a.value < 0 then f t none else f (({ t with smalls := t.smalls ++ [⟨a.value.toNat, k, []⟩] } : Kg46.State).placed ⟨a.value.toNat, k, []⟩ n).1 (some (({ t with smalls := t.smalls ++ [⟨a.value.toNat, k, []⟩] } : Kg46.State).placed ⟨a.value.toNat, k, []⟩ n).2))
    have hb : (fin o45 A P).2.2.length ≤ LIM := hb
    show ∃ A' B' t' r, B.takeSmall A (n : Int) (Kg46.sizeAt k : Int) = _ ∧ _ ∧ _ ∧ fin o45 A P = _ ∧ _
    unfold MBlocks.takeSmall MBlocks.runFor
    rcases room_head (smalls_nd hap) R.sok k1 with ⟨g1, g2⟩ | ⟨r, fs, g1, g2, g3, g4, g5⟩
    · -- a new run
      have eP : P = Kg46.below t (.take (Kg46.runPages (Kg46.sizeAt k) : Int) 0 4) fun t a => if a.value < 0 then f t none else f (({ t with smalls := t.smalls ++ [⟨a.value.toNat, k, []⟩] } : Kg46.State).placed ⟨a.value.toNat, k, []⟩ n).1 (some (({ t with smalls := t.smalls ++ [⟨a.value.toNat, k, []⟩] } : Kg46.State).placed ⟨a.value.toNat, k, []⟩ n).2) := by
        show (match Kg46.lowest (roomy t.smalls k) with
          | some r => _
          | none => _) = _
        rw [g2]
      rw [eP, fin_below, es] at hb
      rw [eP, fin_below, es]
      obtain ⟨z1, z2, z3, z4, z5, z6, z7⟩ := size_facts k k1
      obtain ⟨A1, m1, s1, r1, h1, h2, h3, h4⟩ := take_sim RP z5 (by omega) (Nat.le_trans (fin_len o45 ⟨A.ans, _⟩ _) hb)
      rw [show runsWithRoom B.runs (Kg46.sizeAt k : Int) = [] by rw [R.runs]; exact g1, z7]
      show ∃ A' B' t' r, (((B.pg.take A (Kg46.runPages (Kg46.sizeAt k) : Int)).bind fun x => _).bind fun x => _) = _ ∧ _
      rw [h1]
      rcases h4 with ⟨rfl, h5, h6⟩ | ⟨p, rfl, h5, h7, h8, h6⟩
      · rw [h6]
        refine ⟨A1, { B with pg := m1 }, { t with pages := some s1 }, none, ?_, h2, ?_, ?_, fun _ => ⟨rfl, rfl, fun j => ?_⟩, fun q h => by cases h⟩
        · show some (A1, ({ B with pg := m1 } : MBlocks), none) = _
          rfl
        · exact ⟨⟨s1, rfl, h3, by rw [h5]; exact hp⟩, R.runs, R.blocks, R.sok, R.gok⟩
        · show fin o45 ⟨A.ans, A1.rows⟩ (if (-7 : Int) < 0 then _ else _) = _
          rw [if_pos (by decide), ← h2]
        · show byteR s1.runs j = byte45 t.pages j
          rw [h5, es]
          rfl
      · rw [h6]
        have hperm := (insert_ok (r := ⟨p, Kg46.runPages (Kg46.sizeAt k), 4, []⟩) RP.mrk.dis z5 (Nat.zero_le _) h7).2
        let r : Kg46.Small := ⟨p, k, []⟩
        let t1 : Kg46.State := { t with pages := some s1, smalls := t.smalls ++ [r] }
        have hrt : (runsT t1).Perm ((p, Kg46.runPages (Kg46.sizeAt k)) :: runsT t) := by
          unfold runsT
          show ((t.smalls ++ [r]).map _ ++ t.greats.map _).Perm _
          rw [List.map_append, List.append_assoc]
          exact List.perm_middle
        have hrs : (rr s1.runs).Perm (runsT t1) := by
          rw [h5]
          exact ((hperm.map _).trans (hp.cons _)).trans hrt.symm
        have hcv : cov (runsT t) p → False := fun hc => h7 p (Nat.le_refl _) (by omega) ((cov_perm hp p).mpr hc)
        have hnp : p ∉ t.smalls.map Kg46.Small.page := fun q => by
          obtain ⟨y, hy, e⟩ := List.mem_map.mp q
          have hpp : 0 < rp y := hap.pos _ (mem_runsS hy)
          exact hcv ⟨_, mem_runsS hy, by show y.page ≤ p; omega, by show p < y.page + rp y; omega⟩
        have hallb : allB t1 = allB t := by
          unfold allB
          show (t.smalls ++ [r]).flatMap _ ++ _ = _
          rw [List.flatMap_append]
          show (_ ++ ([].map (blkS r) ++ [])) ++ _ = _
          rw [List.map_nil, List.append_nil, List.append_nil]
        have hsr : SOk r := ⟨k1, trivial, fun x hx => (by cases hx), fun x hx => (by cases hx)⟩
        have hfull : r.full = false := by
          unfold Kg46.Small.full
          have := places_pos hsr
          exact decide_eq_false (by show ¬ r.places ≤ 0; omega)
        let B1 : MBlocks := { B with pg := m1, runs := B.runs ++ [((p : Int), mrun r)] }
        have R1 : RelB B1 t1 := by
          refine ⟨⟨s1, rfl, h3, hrs⟩, ?_, ?_, fun x hx => ?_, R.gok⟩
          · show B.runs ++ [((p : Int), mrun r)] = (t.smalls ++ [r]).map _
            rw [List.map_append, R.runs]
            rfl
          · rw [hallb]
            exact R.blocks
          · rcases List.mem_append.mp hx with h | h
            · exact R.sok x h
            · have : x = r := by simpa using h
              rw [this]
              exact hsr
        obtain ⟨B2, c1, c2, c3, c4, c5, c6, c7⟩ := placed_sim (n := n) R1 (List.mem_append_right _ List.mem_cons_self) hfull k2
        have hrunnone : (B.blocks.all fun b => decide (b.2.run ≠ some (p : Int))) = true := by
          rw [List.all_eq_true]
          intro b hb2
          refine decide_eq_true fun eb => ?_
          have hb2 := R.blocks.mem_iff.mp hb2
          rcases List.mem_append.mp hb2 with h | h
          · obtain ⟨y, hy, h⟩ := List.mem_flatMap.mp h
            obtain ⟨u, hu, rfl⟩ := List.mem_map.mp h
            have eb : (y.page : Int) = (p : Int) := Option.some.inj eb
            exact hnp (List.mem_map.mpr ⟨y, hy, by omega⟩)
          · obtain ⟨g, hg, rfl⟩ := List.mem_map.mp h
            cases eb
        refine ⟨A1, B2, (t1.placed r n).1, some (t1.placed r n).2, ?_, h2, c2, ?_, fun h => (by cases h), fun q hq => ?_⟩
        · show (((MRun.new (p : Int) (Kg46.sizeAt k : Int)).bind fun r => if B.runs.length < LIM ∧ (look B.runs (p : Int)).isSome = false ∧ (B.blocks.all fun b => decide (b.2.run ≠ some (p : Int))) = true then some (A1, ({ B with pg := m1, runs := B.runs ++ [((p : Int), r)] } : MBlocks), some (p : Int)) else none).bind fun x => _) = _
          rw [new_run k1]
          show ((if B.runs.length < LIM ∧ (look B.runs (p : Int)).isSome = false ∧ (B.blocks.all fun b => decide (b.2.run ≠ some (p : Int))) = true then some (A1, B1, some (p : Int)) else none).bind fun x => _) = _
          rw [if_pos ⟨Nat.lt_of_le_of_lt R.len.2 (by decide), by rw [R.runs, look_runs_none hnp]; rfl, hrunnone⟩]
          exact c1 A1
        · show fin o45 ⟨A.ans, A1.rows⟩ (if (p : Int) < 0 then _ else f (({ t with pages := some s1, smalls := t.smalls ++ [⟨(p : Int).toNat, k, []⟩] } : Kg46.State).placed ⟨(p : Int).toNat, k, []⟩ n).1 (some (({ t with pages := some s1, smalls := t.smalls ++ [⟨(p : Int).toNat, k, []⟩] } : Kg46.State).placed ⟨(p : Int).toNat, k, []⟩ n).2)) = _
          rw [if_neg (by omega), ← h2, Int.toNat_natCast]
        · have hq : (t1.placed r n).2 = q := Option.some.inj hq
          subst hq
          refine ⟨⟨_, by rw [← hallb]; exact c3⟩, ⟨(p, rp r), by rw [c4]; exact hrt.mem_iff.mpr List.mem_cons_self, c5, c6⟩, fun x hx => by rw [c4]; exact hrt.mem_iff.mpr (List.mem_cons_of_mem _ hx), fun j hj1 hj2 => ?_⟩
          obtain ⟨x, hx, x1, x2⟩ := hj2
          rw [c7 j, List.length_replicate, if_neg hj1]
          show byteR s1.runs j = byte45 t.pages j
          rw [es, h5]
          exact bytes_insert RP.mrk.dis (by rw [← h5]; exact h3.mrk.dis) hperm (hp.mem_iff.mpr hx) x1 x2
    · -- a run with room
      have eP : P = f (t.placed r n).1 (some (t.placed r n).2) := by
        show (match Kg46.lowest (roomy t.smalls k) with
          | some r => _
          | none => _) = _
        rw [g4]
      rw [eP]
      rw [show runsWithRoom B.runs (Kg46.sizeAt k : Int) = (r.page : Int) :: fs by rw [R.runs]; exact g5]
      have hsz : n ≤ sz r := by
        unfold sz
        rw [g2]
        exact k2
      obtain ⟨B2, c1, c2, c3, c4, c5, c6, c7⟩ := placed_sim (n := n) R g1 g3 hsz
      refine ⟨A, B2, (t.placed r n).1, some (t.placed r n).2, c1 A, rfl, c2, rfl, fun h => (by cases h), fun q hq => ?_⟩
      have hq : (t.placed r n).2 = q := Option.some.inj hq
      subst hq
      refine ⟨⟨_, c3⟩, ⟨(r.page, rp r), by rw [c4]; exact mem_runsS g1, c5, c6⟩, fun x hx => by rw [c4]; exact hx, fun j hj1 hj2 => ?_⟩
      rw [c7 j, List.length_replicate, if_neg hj1]
end GK
end
section
set_option linter.all false
set_option maxRecDepth 100000
namespace GK
theorem inT_of {B : MBlocks} {t : Kg46.State} (R : RelB B t) {q n : Nat} {run : Option Int} (h : ((q : Int), (⟨(n : Int), run⟩ : MBlock)) ∈ allB t) : InT t q (q + n) := by
  rcases List.mem_append.mp h with h | h
  · obtain ⟨r, hr, h⟩ := List.mem_flatMap.mp h
    obtain ⟨u, hu, e⟩ := List.mem_map.mp h
    have e1 : (keyS r u : Int) = (q : Int) := congrArg Prod.fst e
    have e2 : (u.2 : Int) = (n : Int) := congrArg (fun x : Int × MBlock => x.2.size) e
    have hs := R.sok r hr
    obtain ⟨a, b⟩ := key_in hs (hs.lt u hu)
    have c := hs.fit u hu
    exact ⟨_, mem_runsS hr, by show r.page * 4096 ≤ q; omega, by show q + n ≤ (r.page + rp r) * 4096; omega⟩
  · obtain ⟨g, hg, e⟩ := List.mem_map.mp h
    have e1 : ((g.page * 4096 : Nat) : Int) = (q : Int) := congrArg Prod.fst e
    have e2 : (g.size : Int) = (n : Int) := congrArg (fun x : Int × MBlock => x.2.size) e
    have hp := R.gok g hg
    refine ⟨_, mem_runsG hg, by show g.page * 4096 ≤ q; omega, ?_⟩
    show q + n ≤ (g.page + g.pages) * 4096
    rw [hp]
    unfold Kg46.pagesFor
    have : Kg46.PAGE = 4096 := rfl
    rw [this]
    omega
theorem mark_still {s : Kg45.State} (hd : Dis 0 (rr s.runs)) {r : Kg45.Run} (hr : r ∈ s.runs) : (Kg46.still (some s) (.mark (r.first : Int) 0)).1 = some (s.with_ { r with mark := 0 }) := by
  have es : Kg45.spec (some s) (.mark (r.first : Int) 0) = .done (some (s.with_ { r with mark := 0 })) (Kg45.num 0) := by
    show (if Kg45.within 0 0 7 = false then Given.Prog.done (some s) (Kg45.num (-8)) else (match s.run (r.first : Int) with
      | none => Given.Prog.done (some s) (Kg45.num (-5))
      | some r => Given.Prog.done (some (s.with_ { r with mark := (0 : Int).toNat })) (Kg45.num 0))) = _
    rw [if_neg (by decide), run_find hd hr]
    rfl
  unfold Kg46.still
  rw [es]
/-- a run of pages given up by blocks -/
theorem giveRun_sim {A : MAsks} {m : MPages} {t : Kg46.State} {s : Kg45.State} {r : Kg45.Run} {f : Kg46.State → Kg46.Prog Kg46.Ans} (es : t.pages = some s) (R : RelP m s) (hr : r ∈ s.runs) (hb : (fin o45 A (Kg46.giveRun t r.first f)).2.2.length ≤ LIM) :
    ∃ A' m' s', m.give A (r.first : Int) = some (A', m') ∧ A'.ans = A.ans ∧ RelP m' s' ∧ s'.runs = s.runs.filter (fun x => x.first != r.first) ∧ fin o45 A (Kg46.giveRun t r.first f) = fin o45 A' (f { t with pages := some s' }) := by
  unfold Kg46.giveRun at hb ⊢
  rw [es, mark_still R.mrk.dis hr, fin_below] at hb
  rw [es, mark_still R.mrk.dis hr, fin_below]
  obtain ⟨A', m', s', h1, h2, h3, h4, h5⟩ := give_sim R hr (Nat.le_trans (fin_len o45 ⟨A.ans, _⟩ _) hb)
  refine ⟨A', m', s', h1, h2, h3, h4, ?_⟩
  show fin o45 ⟨A.ans, (fin o45 A (Kg45.spec (some (s.with_ { r with mark := 0 })) (.give (r.first : Int)))).2.2⟩ (f { t with pages := (fin o45 A (Kg45.spec (some (s.with_ { r with mark := 0 })) (.give (r.first : Int)))).1 }) = _
  rw [h5, ← h2]
theorem bytes_filter {l : List Kg45.Run} {p : Nat} (hd : Dis 0 (rr l)) {x : Nat × Nat} (hx : x ∈ rr (l.filter fun x => x.first != p)) {j : Nat} (h1 : x.1 * 4096 ≤ j) (h2 : j < (x.1 + x.2) * 4096) : byteR (l.filter fun x => x.first != p) j = byteR l j := by
  obtain ⟨y, hy, rfl⟩ := List.mem_map.mp hx
  rw [byteR_in (dis_sub (rr_filter l p) hd) hy h1 h2, byteR_in hd (List.mem_filter.mp hy).1 h1 h2]
theorem del_perm {l : List (Int × MBlock)} {x : Int × MBlock} {m : List (Int × MBlock)} (h : l.Perm (x :: m)) (hn : (l.map (·.1)).Nodup) : (del l x.1).Perm m := by
  have h1 : (del l x.1).Perm (del (x :: m) x.1) := h.filter _
  refine h1.trans ?_
  have hn2 := (h.map (·.1)).nodup_iff.mp hn
  rw [List.map_cons, List.nodup_cons] at hn2
  unfold del
  rw [List.filter_cons, if_neg (by simp)]
  refine List.Perm.of_eq (List.filter_eq_self.mpr fun y hy => decide_eq_true fun e => hn2.1 ?_)
  rw [← e]
  exact List.mem_map.mpr ⟨y, hy, rfl⟩
/-- what a given block changes -/
structure GaveB (t t' : Kg46.State) (x : Int × MBlock) : Prop where
  all : (allB t).Perm (x :: allB t')
  sub : ∀ y ∈ runsT t', y ∈ runsT t
  bytes : ∀ j, InT t' j (j + 1) → byte46 t' j = byte46 t j
theorem great_perm {l : List Kg46.Great} {g : Kg46.Great} (hn : (l.map Kg46.Great.page).Nodup) (hg : g ∈ l) : l.Perm (g :: l.filter fun x => x.page != g.page) := by
  induction l with
  | nil => cases hg
  | cons y l ih =>
    rw [List.map_cons, List.nodup_cons] at hn
    rw [List.filter_cons]
    rcases List.mem_cons.mp hg with h | h
    · subst h
      rw [if_neg (by simp)]
      have : (l.filter fun x => x.page != g.page) = l := List.filter_eq_self.mpr fun x hx => by
        have : x.page ≠ g.page := fun e => hn.1 (List.mem_map.mpr ⟨x, hx, e⟩)
        simpa using this
      rw [this]
    · have : y.page ≠ g.page := fun e => hn.1 (List.mem_map.mpr ⟨g, h, e.symm⟩)
      rw [if_pos (by simpa using this)]
      exact ((ih hn.2 h).cons y).trans (List.Perm.swap g y _)
theorem small_perm {l : List Kg46.Small} {g : Kg46.Small} (hn : (l.map Kg46.Small.page).Nodup) (hg : g ∈ l) : l.Perm (g :: l.filter fun x => x.page != g.page) := by
  induction l with
  | nil => cases hg
  | cons y l ih =>
    rw [List.map_cons, List.nodup_cons] at hn
    rw [List.filter_cons]
    rcases List.mem_cons.mp hg with h | h
    · subst h
      rw [if_neg (by simp)]
      have : (l.filter fun x => x.page != g.page) = l := List.filter_eq_self.mpr fun x hx => by
        have : x.page ≠ g.page := fun e => hn.1 (List.mem_map.mpr ⟨x, hx, e⟩)
        simpa using this
      rw [this]
    · have : y.page ≠ g.page := fun e => hn.1 (List.mem_map.mpr ⟨g, h, e.symm⟩)
      rw [if_pos (by simpa using this)]
      exact ((ih hn.2 h).cons y).trans (List.Perm.swap g y _)
/-- pages' runs when one is gone -/
theorem runs_less {s s' : Kg45.State} {l l' : List (Nat × Nat)} {r : Kg45.Run} (hd : Dis 0 (rr s.runs)) (hr : r ∈ s.runs) (hs : s'.runs = s.runs.filter fun x => x.first != r.first) (hp : (rr s.runs).Perm l) (hl : l.Perm ((r.first, r.pages) :: l')) : (rr s'.runs).Perm l' := by
  have h1 : (rr s.runs).Perm ((r.first, r.pages) :: rr s'.runs) := by
    rw [hs]
    have hn := firsts_nodup hd
    clear hp hl hs hd
    have : ∀ l : List Kg45.Run, (l.map Kg45.Run.first).Nodup → r ∈ l → (rr l).Perm ((r.first, r.pages) :: rr (l.filter fun x => x.first != r.first)) := by
      intro l
      induction l with
      | nil => intro _ h; cases h
      | cons y l ih =>
        intro hn hg
        rw [List.map_cons, List.nodup_cons] at hn
        rw [List.filter_cons]
        rcases List.mem_cons.mp hg with h | h
        · subst h
          rw [if_neg (by simp)]
          have : (l.filter fun x => x.first != r.first) = l := List.filter_eq_self.mpr fun x hx => by
            have : x.first ≠ r.first := fun e => hn.1 (List.mem_map.mpr ⟨x, hx, e⟩)
            simpa using this
          rw [this]
          exact List.Perm.refl _
        · have : y.first ≠ r.first := fun e => hn.1 (List.mem_map.mpr ⟨r, h, e.symm⟩)
          rw [if_pos (by simpa using this)]
          exact ((ih hn.2 h).cons _).trans (List.Perm.swap _ _ _)
    exact this s.runs hn hr
  exact List.Perm.cons_inv (h1.symm.trans (hp.trans hl))
theorem giveG_sim {A : MAsks} {B : MBlocks} {t : Kg46.State} {g : Kg46.Great} {f : Kg46.State → Kg46.Prog Kg46.Ans} (R : RelB B t) (hg : g ∈ t.greats) (hb : (fin o45 A (Kg46.give t (g.page * 4096) f)).2.2.length ≤ LIM) :
    ∃ A' B' t', B.give A ((g.page * 4096 : Nat) : Int) = some (A', B') ∧ A'.ans = A.ans ∧ RelB B' t' ∧ fin o45 A (Kg46.give t (g.page * 4096) f) = fin o45 A' (f t') ∧ GaveB t t' (blkG g) := by
  have hap := R.apart
  obtain ⟨s, es, RP, hp⟩ := R.pg
  have hfind : (t.greats.find? fun x => x.page * Kg46.PAGE == g.page * 4096) = some g := by
    have hn := greats_nd hap
    have : ∀ l : List Kg46.Great, (l.map Kg46.Great.page).Nodup → g ∈ l → (l.find? fun x => x.page * Kg46.PAGE == g.page * 4096) = some g := by
      intro l
      induction l with
      | nil => intro _ h; cases h
      | cons y l ih =>
        intro hn hg
        rw [List.map_cons, List.nodup_cons] at hn
        rw [List.find?_cons]
        have e : Kg46.PAGE = 4096 := rfl
        rcases List.mem_cons.mp hg with h | h
        · subst h
          rw [e]
          simp
        · have hne : y.page ≠ g.page := fun q => hn.1 (List.mem_map.mpr ⟨g, h, q.symm⟩)
          have : (y.page * Kg46.PAGE == g.page * 4096) = false := by
            rw [e]
            simp
            omega
          rw [this]
          exact ih hn.2 h
    exact this _ hn hg
  have eg : Kg46.give t (g.page * 4096) f = Kg46.giveRun { t with greats := t.greats.filter fun x => x.page != g.page } g.page f := by
    unfold Kg46.give
    rw [hfind]
  rw [eg] at hb ⊢
  obtain ⟨x, hx, ex⟩ := List.mem_map.mp (hp.mem_iff.mpr (mem_runsG hg))
  have ex1 : x.first = g.page := congrArg Prod.fst ex
  have ex2 : x.pages = g.pages := congrArg Prod.snd ex
  rw [← ex1] at hb ⊢
  obtain ⟨A', m', s', h1, h2, h3, h4, h5⟩ := giveRun_sim (t := { t with greats := t.greats.filter fun y => y.page != x.first }) es RP hx hb
  rw [h5]
  rw [ex1] at h1 h4 ⊢
  let t' : Kg46.State := { t with pages := some s', greats := t.greats.filter fun x => x.page != g.page }
  have hrt : (runsT t).Perm ((g.page, g.pages) :: runsT t') := by
    unfold runsT
    exact (((great_perm (greats_nd hap) hg).map fun (g : Kg46.Great) => (g.page, g.pages)).append_left _).trans List.perm_middle
  have hall : (allB t).Perm (blkG g :: allB t') := by
    unfold allB
    exact (((great_perm (greats_nd hap) hg).map blkG).append_left _).trans List.perm_middle
  have hrs : (rr s'.runs).Perm (runsT t') := runs_less RP.mrk.dis hx (by rw [ex1]; exact h4) hp (by rw [ex1, ex2]; exact hrt)
  refine ⟨A', { B with blocks := del B.blocks ((g.page * 4096 : Nat) : Int), pg := m' }, t', ?_, h2, ⟨⟨s', rfl, h3, hrs⟩, R.runs, ?_, R.sok, fun y hy => R.gok y (List.mem_filter.mp hy).1⟩, rfl, ⟨hall, fun y hy => hrt.mem_iff.mpr (List.mem_cons_of_mem _ hy), fun j hj => ?_⟩⟩
  · unfold MBlocks.give
    rw [show look B.blocks ((g.page * 4096 : Nat) : Int) = some (blkG g).2 from R.lookB (x := blkG g) (hall.mem_iff.mpr List.mem_cons_self)]
    show ((B.pg.give A (((g.page * 4096 : Nat) : Int).fdiv 4096)).bind fun x => _) = _
    have : ((g.page * 4096 : Nat) : Int).fdiv 4096 = (g.page : Int) := by
      rw [Int.fdiv_eq_ediv_of_nonneg _ (by decide)]
      omega
    rw [this, h1]
    rfl
  · exact del_perm (R.blocks.trans hall) R.keys
  · obtain ⟨y, hy, y1, y2⟩ := hj
    show byteR s'.runs j = byte45 t.pages j
    rw [es, h4]
    exact bytes_filter RP.mrk.dis (by rw [← h4]; exact hrs.mem_iff.mpr hy) y1 y2
end GK
end
section
set_option linter.all false
set_option maxRecDepth 100000
namespace GK
def less (r : Kg46.Small) (q : Nat) : Kg46.Small := { r with used := r.used.filter fun u => r.page * Kg46.PAGE + u.1 * Kg46.sizeAt r.kind != q }
theorem less_used {r : Kg46.Small} (h : SOk r) {u : Nat × Nat} (hu : u ∈ r.used) : (less r (keyS r u)).used = r.used.filter fun x => x.1 != u.1 := by
  show (r.used.filter fun x => r.page * Kg46.PAGE + x.1 * Kg46.sizeAt r.kind != keyS r u) = _
  refine List.filter_congr fun x hx => ?_
  rw [Bool.eq_iff_iff, bne_iff_ne, bne_iff_ne]
  constructor
  · intro a e
    exact a (by
      show keyS r x = keyS r u
      unfold keyS
      rw [e])
  · intro a e
    exact a (keyS_inj h e)
theorem used_perm {l : List (Nat × Nat)} {u : Nat × Nat} (hn : (l.map (·.1)).Nodup) (hu : u ∈ l) : l.Perm (u :: l.filter fun x => x.1 != u.1) := by
  induction l with
  | nil => cases hu
  | cons y l ih =>
    rw [List.map_cons, List.nodup_cons] at hn
    rw [List.filter_cons]
    rcases List.mem_cons.mp hu with h | h
    · subst h
      rw [if_neg (by simp)]
      have : (l.filter fun x => x.1 != u.1) = l := List.filter_eq_self.mpr fun x hx => by
        have : x.1 ≠ u.1 := fun e => hn.1 (List.mem_map.mpr ⟨x, hx, e⟩)
        simpa using this
      rw [this]
    · have : y.1 ≠ u.1 := fun e => hn.1 (List.mem_map.mpr ⟨u, h, e.symm⟩)
      rw [if_pos (by simpa using this)]
      exact ((ih hn.2 h).cons y).trans (List.Perm.swap u y _)
theorem less_ok {r : Kg46.Small} (h : SOk r) {u : Nat × Nat} (hu : u ∈ r.used) : SOk (less r (keyS r u)) ∧ mrun (less r (keyS r u)) = { mrun r with used := (mrun r).used.set u.1 false } := by
  have e := less_used h hu
  have hsub : ((less r (keyS r u)).used).Sublist r.used := by
    rw [e]
    exact List.filter_sublist
  refine ⟨⟨h.kind, dis_sub (hsub.map _) h.ups, fun x hx => h.lt x (hsub.mem hx), fun x hx => h.fit x (hsub.mem hx)⟩, ?_⟩
  have hlt := h.lt u hu
  have e2 : (List.range r.places).map (usedAt (less r (keyS r u)).used) = ((List.range r.places).map (usedAt r.used)).set u.1 false := by
    refine List.ext_getElem (by simp) fun j h1 h2 => ?_
    rw [List.getElem_map, List.getElem_range, List.getElem_set, List.getElem_map, List.getElem_range]
    have hp := used_perm (ups_nd h.ups) hu
    rw [← e] at hp
    by_cases c : u.1 = j
    · rw [if_pos c, Bool.eq_false_iff]
      intro q
      unfold usedAt at q
      obtain ⟨x, hx, ex⟩ := List.any_eq_true.mp q
      rw [e] at hx
      have := (List.mem_filter.mp hx).2
      have ex : x.1 = j := by simpa using ex
      rw [ex, c] at this
      simp at this
    · rw [if_neg c, usedAt_perm hp, usedAt_cons]
      have : (u.1 == j) = false := by simpa using c
      rw [this, Bool.false_or]
  show (⟨(r.page : Int), (sz r : Int), (rp r : Int), (List.range r.places).map (usedAt (less r (keyS r u)).used)⟩ : MRun) = _
  rw [e2]
  rfl
theorem number_at {r : Kg46.Small} (h : SOk r) (u : Nat × Nat) : (mrun r).numberAt (keyS r u : Int) = (u.1 : Int) := by
  have hz : 16 ≤ sz r := (size_facts r.kind h.kind).1
  show ((keyS r u : Int) - (r.page : Int) * 4096).fdiv (sz r : Int) = _
  have : (keyS r u : Int) - (r.page : Int) * 4096 = ((u.1 * sz r : Nat) : Int) := by
    unfold keyS
    omega
  rw [this, Int.fdiv_eq_ediv_of_nonneg _ (by omega), ← Int.natCast_ediv, Nat.mul_div_cancel _ (by omega)]
theorem more_room {l : List Kg46.Small} (hn : (l.map Kg46.Small.page).Nodup) {a : Kg46.Small} (ha : a ∈ l) (hf : a.full = false) : 1 < (roomy l a.kind).length ↔ (l.any fun x => x.kind == a.kind && (x.page != a.page && !x.full)) = true := by
  have hm : a ∈ roomy l a.kind := List.mem_filter.mpr ⟨ha, by rw [hf]; simp⟩
  have hn2 : ((roomy l a.kind).map Kg46.Small.page).Nodup := hn.sublist (List.filter_sublist.map _)
  have hp := (small_perm hn2 hm).length_eq
  rw [List.length_cons] at hp
  rw [List.any_eq_true]
  constructor
  · intro h
    have : 0 < ((roomy l a.kind).filter fun x => x.page != a.page).length := by omega
    obtain ⟨x, hx⟩ := List.exists_mem_of_length_pos this
    obtain ⟨h1, h2⟩ := List.mem_filter.mp hx
    obtain ⟨h3, h4⟩ := List.mem_filter.mp h1
    refine ⟨x, h3, ?_⟩
    simp only [Bool.and_eq_true] at h4 ⊢
    exact ⟨h4.1, h2, h4.2⟩
  · rintro ⟨x, hx, h⟩
    simp only [Bool.and_eq_true] at h
    have : x ∈ (roomy l a.kind).filter fun x => x.page != a.page := List.mem_filter.mpr ⟨List.mem_filter.mpr ⟨hx, by simp only [Bool.and_eq_true]; exact ⟨h.1, h.2.2⟩⟩, h.2.1⟩
    have := List.length_pos_of_mem this
    omega
end GK
end
section
set_option linter.all false
set_option maxRecDepth 100000
namespace GK
theorem with_flat2 : ∀ (l : List Kg46.Small) (r r' : Kg46.Small) (x : Int × MBlock), (l.map Kg46.Small.page).Nodup → r ∈ l → r'.page = r.page → (r.used.map (blkS r)).Perm (x :: r'.used.map (blkS r')) →
    (l.flatMap fun r => r.used.map (blkS r)).Perm (x :: (l.map fun x => if x.page = r'.page then r' else x).flatMap fun r => r.used.map (blkS r))
  | [], _, _, _, _, h, _, _ => by cases h
  | y :: l, r, r', x, hn, hr, hp, h => by
    rw [List.map_cons] at hn
    rw [List.nodup_cons] at hn
    rw [List.map_cons, List.flatMap_cons, List.flatMap_cons]
    by_cases c : y.page = r'.page
    · have e : r = y := nodup_eq (l := y :: l) (f := Kg46.Small.page) (by rw [List.map_cons, List.nodup_cons]; exact hn) hr List.mem_cons_self (by rw [c, hp])
      subst e
      rw [if_pos c]
      have : (l.map fun x => if x.page = r'.page then r' else x) = l := by
        conv => rhs; rw [← List.map_id l]
        refine List.map_congr_left fun z hz => if_neg fun q => hn.1 (List.mem_map.mpr ⟨z, hz, by rw [q, hp]⟩)
      rw [this]
      exact (h.append_right _)
    · have hrl : r ∈ l := by
        rcases List.mem_cons.mp hr with q | q
        · exact absurd (by rw [hp, q]) c
        · exact q
      rw [if_neg c]
      exact ((with_flat2 l r r' x hn.2 hrl hp h).append_left _).trans List.perm_middle
theorem find_unique {α : Type} {p : α → Bool} {x : α} : ∀ {l : List α}, x ∈ l → p x = true → (∀ y ∈ l, p y = true → y = x) → l.find? p = some x
  | y :: l, hx, hp, hu => by
    rw [List.find?_cons]
    cases e : p y with
    | true =>
      rw [hu y List.mem_cons_self e]
    | false =>
      rcases List.mem_cons.mp hx with h | h
      · rw [← h, hp] at e
        cases e
      · exact find_unique h hp fun z hz => hu z (List.mem_cons_of_mem _ hz)
theorem giveS_sim {A : MAsks} {B : MBlocks} {t : Kg46.State} {r : Kg46.Small} {u : Nat × Nat} {f : Kg46.State → Kg46.Prog Kg46.Ans} (R : RelB B t) (hr : r ∈ t.smalls) (hu : u ∈ r.used) (hb : (fin o45 A (Kg46.give t (keyS r u) f)).2.2.length ≤ LIM) :
    ∃ A' B' t', B.give A (keyS r u : Int) = some (A', B') ∧ A'.ans = A.ans ∧ RelB B' t' ∧ fin o45 A (Kg46.give t (keyS r u) f) = fin o45 A' (f t') ∧ GaveB t t' (blkS r u) := by
  have hap := R.apart
  have hs := R.sok r hr
  obtain ⟨s, es, RP, hp⟩ := R.pg
  have hlt := hs.lt u hu
  obtain ⟨k1, k2⟩ := key_in hs hlt
  obtain ⟨z1, z2, z3, z4, z5, z6, z7⟩ := size_facts r.kind hs.kind
  have hz : 16 ≤ sz r := z1
  have hz2 : sz r ≤ 32768 := z2
  have hP : Kg46.PAGE = 4096 := rfl
  -- which run it is
  have hg : (t.greats.find? fun g => g.page * Kg46.PAGE == keyS r u) = none := by
    rw [List.find?_eq_none]
    intro g hg q
    have q : g.page * 4096 = keyS r u := by simpa [hP] using q
    have hgp : 0 < g.pages := hap.pos _ (mem_runsG hg)
    have := keyS_page hap R.sok hr hu (mem_runsG hg) (by show g.page * 4096 ≤ _; omega) (by show _ < (g.page + g.pages) * 4096; omega)
    exact small_great hap hr hg (congrArg Prod.fst this).symm
  have hsm : (t.smalls.find? fun r => r.blocks.any fun b => b.place == keyS r u) = t.smalls.find? fun x => x.blocks.any fun b => b.place == keyS x u := rfl
  have hf : (t.smalls.find? fun x => x.blocks.any fun b => b.place == keyS r u) = some r := by
    refine find_unique hr ?_ fun y hy q => ?_
    · refine List.any_eq_true.mpr ⟨_, List.mem_map.mpr ⟨u, hu, rfl⟩, ?_⟩
      show (r.page * Kg46.PAGE + u.1 * Kg46.sizeAt r.kind == keyS r u) = true
      rw [beq_iff_eq]
      rfl
    · obtain ⟨b, hb2, q⟩ := List.any_eq_true.mp q
      obtain ⟨v, hv, rfl⟩ := List.mem_map.mp hb2
      have q : keyS y v = keyS r u := by
        have : (y.page * Kg46.PAGE + v.1 * Kg46.sizeAt y.kind == keyS r u) = true := q
        rw [beq_iff_eq] at this
        exact this
      have hy2 := keyS_page hap R.sok hy hv (mem_runsS hr) (by show r.page * 4096 ≤ _; omega) (by show _ < (r.page + rp r) * 4096; omega)
      exact nodup_eq (smalls_nd hap) hy hr (congrArg Prod.fst hy2).symm
  let q := less r (keyS r u)
  obtain ⟨hq1, hq2⟩ := less_ok hs hu
  let t1 : Kg46.State := t.withSmall q
  have hts : t1.smalls = t.smalls.map fun x => if x.page = q.page then q else x := rfl
  have hqm : q ∈ t1.smalls := List.mem_map.mpr ⟨r, hr, if_pos rfl⟩
  have hpages1 : t1.smalls.map Kg46.Small.page = t.smalls.map Kg46.Small.page := by
    rw [hts, List.map_map]
    refine List.map_congr_left fun x hx => ?_
    show (if x.page = q.page then q else x).page = x.page
    by_cases c : x.page = q.page
    · rw [if_pos c, c]
    · rw [if_neg c]
  have hnd1 : (t1.smalls.map Kg46.Small.page).Nodup := by
    rw [hpages1]
    exact smalls_nd hap
  have hsok1 : ∀ x ∈ t1.smalls, SOk x := fun x hx => by
    rw [hts] at hx
    obtain ⟨y, hy, rfl⟩ := List.mem_map.mp hx
    by_cases c : y.page = q.page
    · rw [if_pos c]
      exact hq1
    · rw [if_neg c]
      exact R.sok y hy
  have hruns1 : runsT t1 = runsT t := by
    unfold runsT
    rw [hts]
    show _ ++ t.greats.map _ = _
    rw [with_runsT t.smalls r q rfl rfl (smalls_nd hap) hr]
  have hall1 : (allB t).Perm (blkS r u :: allB t1) := by
    unfold allB
    rw [hts]
    refine (with_flat2 t.smalls r q (blkS r u) (smalls_nd hap) hr rfl ?_).append_right _
    have hp2 := used_perm (ups_nd hs.ups) hu
    rw [← less_used hs hu] at hp2
    exact hp2.map (blkS r)
  have hB1 : put B.runs (r.page : Int) (mrun q) = t1.smalls.map fun r => ((r.page : Int), mrun r) := by
    rw [R.runs, hts]
    exact put_runs (smalls_nd hap) hr rfl
  have heg : Kg46.give t (keyS r u) f = if q.used = [] ∧ (t1.smalls.any fun x => x.kind == q.kind && (x.page != q.page && !x.full)) = true then Kg46.giveRun { t1 with smalls := t1.smalls.filter fun x => x.page != q.page } q.page f else f t1 := by
    unfold Kg46.give
    rw [hg]
    show (match t.smalls.find? fun x => x.blocks.any fun b => b.place == keyS r u with
      | none => f t
      | some r => _) = _
    rw [hf]
    rfl
  have hmg : B.give A (keyS r u : Int) = (if (mrun q).isEmpty = true ∧ 1 < (runsWithRoom (put B.runs (r.page : Int) (mrun q)) (sz r : Int)).length then (B.pg.give A (r.page : Int)).bind fun x => some (x.1, { B with blocks := del B.blocks (keyS r u : Int), runs := del (put B.runs (r.page : Int) (mrun q)) (r.page : Int), pg := x.2 })
       else some (A, { B with blocks := del B.blocks (keyS r u : Int), runs := put B.runs (r.page : Int) (mrun q) })) := by
    unfold MBlocks.give
    rw [show look B.blocks (keyS r u : Int) = some (blkS r u).2 from R.lookB (x := blkS r u) (hall1.mem_iff.mpr List.mem_cons_self)]
    show ((look B.runs (r.page : Int)).bind fun r => _) = _
    rw [show look B.runs (r.page : Int) = some (mrun r) by rw [R.runs]; exact look_runs (smalls_nd hap) hr]
    show (if 0 < (sz r : Int) ∧ (sz r : Int) ≤ 1000000 ∧ 0 ≤ (mrun r).numberAt (keyS r u : Int) ∧ (mrun r).numberAt (keyS r u : Int) < ((mrun r).used.length : Int) ∧ (mrun r).first = (r.page : Int) then _ else _) = _
    rw [number_at hs u, if_pos ⟨by omega, by omega, by omega, by show (u.1 : Int) < ((((List.range r.places).map (usedAt r.used)).length : Nat) : Int); rw [List.length_map, List.length_range]; omega, rfl⟩, Int.toNat_natCast, ← hq2]
    rfl
  have hroom : q.used = [] → (1 < (runsWithRoom (put B.runs (r.page : Int) (mrun q)) (sz r : Int)).length ↔ (t1.smalls.any fun x => x.kind == q.kind && (x.page != q.page && !x.full)) = true) := fun hem => by
    rw [hB1, show (sz r : Int) = (Kg46.sizeAt q.kind : Int) from rfl, room_eq hnd1 hsok1 (show q.kind < 40 from hs.kind), (isort_perm _).length_eq, List.length_map]
    refine more_room hnd1 hqm ?_
    unfold Kg46.Small.full
    rw [hem]
    have : 0 < q.places := places_pos hq1
    exact decide_eq_false (by show ¬ q.places ≤ 0; omega)
  rw [heg] at hb ⊢
  rw [hmg]
  by_cases c : q.used = [] ∧ (t1.smalls.any fun x => x.kind == q.kind && (x.page != q.page && !x.full)) = true
  · rw [if_pos c] at hb ⊢
    rw [if_pos ⟨(isEmpty_eq hq1).mpr c.1, (hroom c.1).mpr c.2⟩]
    obtain ⟨x, hx, ex⟩ := List.mem_map.mp (hp.mem_iff.mpr (mem_runsS hr))
    have ex1 : x.first = r.page := congrArg Prod.fst ex
    have ex2 : x.pages = rp r := congrArg Prod.snd ex
    have eqp : q.page = x.first := ex1.symm
    rw [eqp] at hb ⊢
    obtain ⟨A', m', s', h1, h2, h3, h4, h5⟩ := giveRun_sim (t := { t1 with smalls := t1.smalls.filter fun y => y.page != x.first }) es RP hx hb
    rw [h5]
    rw [ex1] at h1 h4 ⊢
    let t' : Kg46.State := { t1 with pages := some s', smalls := t1.smalls.filter fun x => x.page != r.page }
    have hperm := small_perm hnd1 hqm
    have hrt : (runsT t).Perm ((r.page, rp r) :: runsT t') := by
      rw [← hruns1]
      unfold runsT
      exact ((hperm.map fun r => (r.page, rp r)).append_right _)
    have hall : (allB t1).Perm (allB t') := by
      unfold allB
      refine List.Perm.append_right _ ?_
      refine (hperm.flatMap_right _).trans ?_
      rw [List.flatMap_cons, c.1]
      exact List.Perm.refl _
    have hrs : (rr s'.runs).Perm (runsT t') := runs_less RP.mrk.dis hx (by rw [ex1]; exact h4) hp (by rw [ex1, ex2]; exact hrt)
    refine ⟨A', { B with blocks := del B.blocks (keyS r u : Int), runs := del (put B.runs (r.page : Int) (mrun q)) (r.page : Int), pg := m' }, t', ?_, h2, ⟨⟨s', rfl, h3, hrs⟩, ?_, ?_, fun y hy => hsok1 y (List.mem_filter.mp hy).1, R.gok⟩, rfl, ⟨hall1.trans (hall.cons _), fun y hy => hrt.mem_iff.mpr (List.mem_cons_of_mem _ hy), fun j hj => ?_⟩⟩
    · rw [h1]
      rfl
    · show del (put B.runs (r.page : Int) (mrun q)) (r.page : Int) = (t1.smalls.filter fun x => x.page != r.page).map _
      rw [hB1]
      unfold del
      rw [List.filter_map]
      refine congrArg _ (List.filter_congr fun y _ => ?_)
      show decide ((y.page : Int) ≠ (r.page : Int)) = (y.page != r.page)
      rw [Bool.eq_iff_iff]
      simp
      omega
    · exact (del_perm (R.blocks.trans hall1) R.keys).trans hall
    · obtain ⟨y, hy, y1, y2⟩ := hj
      show byteR s'.runs j = byte45 t.pages j
      rw [es, h4]
      exact bytes_filter RP.mrk.dis (by rw [← h4]; exact hrs.mem_iff.mpr hy) y1 y2
  · rw [if_neg c] at hb ⊢
    rw [if_neg fun w => c ⟨(isEmpty_eq hq1).mp w.1, (hroom ((isEmpty_eq hq1).mp w.1)).mp w.2⟩]
    refine ⟨A, _, t1, rfl, rfl, ⟨⟨s, es, RP, by rw [hruns1]; exact hp⟩, hB1, del_perm (R.blocks.trans hall1) R.keys, hsok1, R.gok⟩, rfl, ⟨hall1, fun y hy => by rw [← hruns1]; exact hy, fun j _ => rfl⟩⟩
end GK
end
section
set_option linter.all false
set_option maxRecDepth 100000
namespace GK
def I46 (B : MBlocks) (sm : List Kg46.Small) (gr : List Kg46.Great) (h : Kg46.House) : Prop := ∃ t, h = some t ∧ RelB B t ∧ t.smalls = sm ∧ t.greats = gr
def byteH (h : Kg46.House) (j : Nat) : Nat := match h with
  | some t => byte46 t j
  | none => 0
/-- what allB says of smalls and greats alone -/
def hasB (sm : List Kg46.Small) (gr : List Kg46.Great) (q n : Nat) : Prop := ∃ run : Option Int, ((q : Int), (⟨(n : Int), run⟩ : MBlock)) ∈ sm.flatMap (fun r => r.used.map (blkS r)) ++ gr.map blkG
theorem hold_of {t : Kg46.State} {q n at_ k : Nat} (h : hasB t.smalls t.greats q n) (h1 : q ≤ at_) (h2 : at_ + k ≤ q + n) : ∃ b, t.holding (at_ : Int) k = some b := by
  obtain ⟨run, h⟩ := h
  have hm : ∃ b ∈ t.blocks, b.place = q ∧ b.size = n := by
    unfold Kg46.State.blocks
    rcases List.mem_append.mp h with h | h
    · obtain ⟨r, hr, h⟩ := List.mem_flatMap.mp h
      obtain ⟨u, hu, e⟩ := List.mem_map.mp h
      have e1 : (keyS r u : Int) = (q : Int) := congrArg Prod.fst e
      have e2 : (u.2 : Int) = (n : Int) := congrArg (fun x : Int × MBlock => x.2.size) e
      refine ⟨⟨keyS r u, u.2, sz r⟩, (List.mergeSort_perm _ _).mem_iff.mpr (List.mem_append_left _ (List.mem_flatMap.mpr ⟨r, hr, List.mem_map.mpr ⟨u, hu, rfl⟩⟩)), by show keyS r u = q; omega, by show u.2 = n; omega⟩
    · obtain ⟨g, hg, e⟩ := List.mem_map.mp h
      have e1 : ((g.page * 4096 : Nat) : Int) = (q : Int) := congrArg Prod.fst e
      have e2 : (g.size : Int) = (n : Int) := congrArg (fun x : Int × MBlock => x.2.size) e
      refine ⟨⟨g.page * Kg46.PAGE, g.size, g.pages * Kg46.PAGE⟩, (List.mergeSort_perm _ _).mem_iff.mpr (List.mem_append_right _ (List.mem_map.mpr ⟨g, hg, rfl⟩)), by show g.page * 4096 = q; omega, by show g.size = n; omega⟩
  obtain ⟨b, hb, b1, b2⟩ := hm
  unfold Kg46.State.holding
  rw [← Option.isSome_iff_exists, List.find?_isSome]
  refine ⟨b, hb, ?_⟩
  simp only [Bool.and_eq_true, decide_eq_true_eq]
  omega
theorem RelB.bytes {B : MBlocks} {t : Kg46.State} (R : RelB B t) {q n at_ : Nat} {b : List Nat} (h : hasB t.smalls t.greats q n) (h1 : q ≤ at_) (h2 : at_ + b.length ≤ q + n) (hby : ∀ x ∈ b, x < 256) : RelB B { t with pages := Kg46.putAt t.pages at_ b } ∧ Puts (byte46 t) (byte46 { t with pages := Kg46.putAt t.pages at_ b }) at_ b := by
  obtain ⟨run, hm⟩ := h
  obtain ⟨x, hx, x1, x2⟩ := inT_of R hm
  obtain ⟨s, es, RP, hp⟩ := R.pg
  obtain ⟨⟨s2, e2, RP2, er⟩, hq⟩ := putAt45 (m := B.pg) (R0 := rr s.runs) (lo := q) (hi := q + n) (h := t.pages) (at_ := at_) (b := b) (inRun_of hp hx x1 x2) ⟨s, es, RP, rfl⟩ h1 h2 hby
  exact ⟨⟨⟨s2, e2, RP2, by rw [er]; exact hp⟩, R.runs, R.blocks, R.sok, R.gok⟩, hq⟩
theorem put46 {B : MBlocks} {sm : List Kg46.Small} {gr : List Kg46.Great} {h : Kg46.House} {q n at_ : Nat} {b : List Nat} (hI : I46 B sm gr h) (hB : hasB sm gr q n) (h1 : q ≤ at_) (h2 : at_ + b.length ≤ q + n) (hb : b ≠ []) (hby : ∀ x ∈ b, x < 256) :
    I46 B sm gr (Sh30.still h (.put (at_ : Int) (some b))).1 ∧ Puts (byteH h) (byteH (Sh30.still h (.put (at_ : Int) (some b))).1) at_ b := by
  obtain ⟨t, rfl, R, rfl, rfl⟩ := hI
  obtain ⟨bl, hbl⟩ := hold_of hB h1 h2
  obtain ⟨R2, hp⟩ := R.bytes hB h1 h2 hby
  have hany : (b.any fun x => decide (255 < x)) = false := by
    rw [List.any_eq_false]
    intro x hx q
    have := hby x hx
    have := of_decide_eq_true q
    omega
  have es : Kg46.spec (some t) (.put (at_ : Int) (some b)) = .done (some { t with pages := Kg46.putAt t.pages at_ b }) (Kg46.num 0) := by
    show (if (b.any fun x => decide (255 < x)) = true then Given.Prog.done (some t) (Kg46.num (-8)) else if b = [] then Given.Prog.done (some t) (Kg46.num 0) else (match t.holding (at_ : Int) b.length with
      | none => Given.Prog.done (some t) (Kg46.num (-5))
      | some _ => Given.Prog.done (some { t with pages := Kg46.putAt t.pages (at_ : Int).toNat b }) (Kg46.num 0))) = _
    rw [hany, if_neg (by decide), if_neg hb, hbl, Int.toNat_natCast]
  have e : (Sh30.still (some t) (.put (at_ : Int) (some b))).1 = some { t with pages := Kg46.putAt t.pages at_ b } := by
    unfold Sh30.still
    rw [es]
  rw [e]
  exact ⟨⟨_, rfl, R2, rfl, rfl⟩, hp⟩
theorem get46 {B : MBlocks} {sm : List Kg46.Small} {gr : List Kg46.Great} {h : Kg46.House} {q n at_ k : Nat} (hI : I46 B sm gr h) (hB : hasB sm gr q n) (h1 : q ≤ at_) (h2 : at_ + k ≤ q + n) (hk : 0 < k) (hk2 : k ≤ 4096) :
    (Sh30.still h (.get (at_ : Int) (k : Int))).2.out = (List.range k).map fun j => (byteH h (at_ + j) : Int) := by
  obtain ⟨t, rfl, R, rfl, rfl⟩ := hI
  obtain ⟨bl, hbl⟩ := hold_of hB h1 h2
  obtain ⟨run, hm⟩ := hB
  obtain ⟨x, hx, x1, x2⟩ := inT_of R hm
  obtain ⟨s, es, RP, hp⟩ := R.pg
  have hbytes := bytesAt45 (m := B.pg) (R0 := rr s.runs) (lo := q) (hi := q + n) (h := t.pages) (at_ := at_) (n := k) (inRun_of hp hx x1 x2) ⟨s, es, RP, rfl⟩ h1 h2
  have hw : Kg46.within (k : Int) 0 4096 = true := by
    unfold Kg46.within
    rw [decide_eq_true (show (0 : Int) ≤ (k : Int) by omega), decide_eq_true (show (k : Int) ≤ 4096 by omega)]
    rfl
  have e : Kg46.spec (some t) (.get (at_ : Int) (k : Int)) = .done (some t) ⟨0, (Kg46.bytesAt t.pages at_ k).map fun (x : Nat) => (x : Int)⟩ := by
    show (if Kg46.within (k : Int) 0 4096 = false then Given.Prog.done (some t) (Kg46.num (-8)) else if (k : Int) = 0 then Given.Prog.done (some t) (Kg46.num 0) else (match t.holding (at_ : Int) (k : Int).toNat with
      | none => Given.Prog.done (some t) (Kg46.num (-5))
      | some _ => Given.Prog.done (some t) ⟨0, (Kg46.bytesAt t.pages (at_ : Int).toNat (k : Int).toNat).map fun (x : Nat) => (x : Int)⟩)) = _
    rw [hw, if_neg (by decide), if_neg (by omega), Int.toNat_natCast, Int.toNat_natCast, hbl]
  unfold Sh30.still
  rw [e, hbytes]
  show List.map _ (List.map _ _) = _
  rw [List.map_map]
  rfl
theorem putAt46 {B : MBlocks} {sm : List Kg46.Small} {gr : List Kg46.Great} {q n : Nat} (hB : hasB sm gr q n) {h : Kg46.House} {at_ : Nat} {b : List Nat} (hI : I46 B sm gr h) (h1 : q ≤ at_) (h2 : at_ + b.length ≤ q + n) (hby : ∀ x ∈ b, x < 256) :
    I46 B sm gr (Sh30.putAt h at_ b) ∧ Puts (byteH h) (byteH (Sh30.putAt h at_ b)) at_ b := by
  have e : Sh30.putAt h at_ b = (List.range ((b.length + 4095) / 4096)).foldl (fun h i => (Sh30.still h (.put ((at_ + 4096 * i : Nat) : Int) (some ((b.drop (4096 * i)).take 4096)))).1) h := by
    unfold Sh30.putAt Sh30.cutUp
    rw [List.foldl_map]
  obtain ⟨a, c⟩ := fold_put (fun h a b => (Sh30.still h (.put (a : Int) (some b))).1) (I46 B sm gr) byteH q (q + n) (fun h a b i1 i2 i3 i4 i5 i6 => put46 i1 hB i2 i3 i4 i6) at_ b h hI h1 h2 hby _ (Nat.le_refl _)
  rw [← e, List.take_of_length_le (show b.length ≤ 4096 * ((b.length + 4095) / 4096) by omega)] at c
  rw [← e] at a
  exact ⟨a, c⟩
theorem bytesAt46 {B : MBlocks} {sm : List Kg46.Small} {gr : List Kg46.Great} {q n : Nat} (hB : hasB sm gr q n) {h : Kg46.House} {at_ k : Nat} (hI : I46 B sm gr h) (h1 : q ≤ at_) (h2 : at_ + k ≤ q + n) : Sh30.bytesAt h at_ k = (List.range k).map fun j => byteH h (at_ + j) := by
  rw [← chunks_map (fun j => byteH h (at_ + j)) ((k + 4095) / 4096) k (by omega)]
  unfold Sh30.bytesAt
  have : ∀ l : List Nat, (∀ i ∈ l, i < (k + 4095) / 4096) → l.flatMap (fun i => (Sh30.still h (.get ((at_ + 4096 * i : Nat) : Int) ((min 4096 (k - 4096 * i) : Nat) : Int))).2.out.map Int.toNat) = l.flatMap (fun i => (List.range (min 4096 (k - 4096 * i))).map fun j => byteH h (at_ + (4096 * i + j))) := by
    intro l
    induction l with
    | nil => intro _; rfl
    | cons i l ih =>
      intro hl
      have hi := hl i List.mem_cons_self
      rw [List.flatMap_cons, List.flatMap_cons, ih fun x hx => hl x (List.mem_cons_of_mem _ hx)]
      congr 1
      rw [get46 hI hB (by omega) (by omega) (by omega) (by omega), List.map_map]
      refine List.map_congr_left fun j _ => ?_
      show ((byteH h (at_ + 4096 * i + j) : Nat) : Int).toNat = _
      rw [Int.toNat_natCast, Nat.add_assoc]
  exact this _ fun i hi => List.mem_range.mp hi
end GK
end
section
set_option linter.all false
set_option maxRecDepth 100000
namespace GK
theorem sum_cast : ∀ l : List Nat, ((l.map fun (n : Nat) => (n : Int)).sum) = ((l.sum : Nat) : Int)
  | [] => rfl
  | x :: l => by
    rw [List.map_cons, List.sum_cons, List.sum_cons, sum_cast l]
    omega
/-- a block of the Spec as the mirror has it, and its room -/
def roomN (t : Kg46.State) : List Nat := t.smalls.flatMap (fun r => r.used.map fun _ => sz r) ++ t.greats.map fun g => g.pages * 4096
def sizeN (t : Kg46.State) : List Nat := t.smalls.flatMap (fun r => r.used.map fun u => u.2) ++ t.greats.map fun g => g.size
theorem rooms_some (rs : List (Int × MRun)) : ∀ l : List (Int × MBlock), (∀ b ∈ l, ∃ x, roomOf rs b.2 = some x) → roomsOf rs l = some (l.map fun b => (roomOf rs b.2).getD 0)
  | [], _ => rfl
  | b :: l, h => by
    obtain ⟨x, hx⟩ := h b List.mem_cons_self
    unfold roomsOf
    rw [hx, rooms_some rs l fun c hc => h c (List.mem_cons_of_mem _ hc), List.map_cons, hx]
    rfl
theorem greatBytes_eq : ∀ l : List (Int × MBlock), greatBytes l = (l.map fun b => match b.2.run with
    | none => pagesOf b.2.size * 4096
    | some _ => 0).sum
  | [] => rfl
  | b :: l => by
    rw [List.map_cons, List.sum_cons, ← greatBytes_eq l]
    rfl
theorem great_pages (n : Nat) (h : 1 ≤ n) : pagesOf (n : Int) * 4096 = ((Kg46.pagesFor n * 4096 : Nat) : Int) := by
  rw [pagesOf_eq n h]
  omega
theorem sums46 {B : MBlocks} {t : Kg46.State} (R : RelB B t) (hg1 : ∀ g ∈ t.greats, 1 ≤ g.size) : B.sums = some ([(t.blocks.length : Int), (t.blocks.map Kg46.Block.size).sum, (t.blocks.map Kg46.Block.room).sum, ((t.smalls.map fun r => Kg46.runPages (Kg46.sizeAt r.kind) * Kg46.PAGE).sum + (t.greats.map fun g => g.pages * Kg46.PAGE).sum : Nat)] ++ (Kg46.still t.pages .sums).2.out) := by
  have hap := R.apart
  obtain ⟨s, es, RP, hp⟩ := R.pg
  have hP : Kg46.PAGE = 4096 := rfl
  have hbl : t.blocks.Perm ((t.smalls.flatMap Kg46.Small.blocks) ++ (t.greats.map fun (g : Kg46.Great) => (⟨g.page * Kg46.PAGE, g.size, g.pages * Kg46.PAGE⟩ : Kg46.Block))) := List.mergeSort_perm _ _
  have e1 : B.blocks.length = t.blocks.length := by
    rw [R.blocks.length_eq, hbl.length_eq]
    unfold allB
    rw [List.length_append, List.length_append, List.length_map, List.length_map]
    congr 1
    generalize t.smalls = l
    induction l with
    | nil => rfl
    | cons r l ih =>
      rw [List.flatMap_cons, List.flatMap_cons, List.length_append, List.length_append, ih]
      unfold Kg46.Small.blocks
      rw [List.length_map, List.length_map]
  have e2 : (B.blocks.map fun p => p.2.size).sum = (((t.blocks.map Kg46.Block.size).sum : Nat) : Int) := by
    rw [sumI_perm (R.blocks.map fun p => p.2.size), sum_perm (hbl.map Kg46.Block.size), ← sum_cast]
    congr 1
    unfold allB
    rw [List.map_append, List.map_append, List.map_append, List.map_map, List.map_map, List.map_map]
    congr 1
    · generalize t.smalls = l
      induction l with
      | nil => rfl
      | cons r l ih =>
        rw [List.flatMap_cons, List.flatMap_cons, List.map_append, List.map_append, ih]
        congr 1
        unfold Kg46.Small.blocks
        rw [List.map_map, List.map_map]
        rfl
    · rw [List.map_map]
      rfl
  have hroom : ∀ b ∈ B.blocks, ∃ x, roomOf B.runs b.2 = some x := fun b hb => by
    rcases List.mem_append.mp (R.blocks.mem_iff.mp hb) with h | h
    · obtain ⟨r, hr, h⟩ := List.mem_flatMap.mp h
      obtain ⟨u, hu, rfl⟩ := List.mem_map.mp h
      refine ⟨(sz r : Int), ?_⟩
      show (look B.runs (r.page : Int)).map MRun.small = _
      rw [R.runs, look_runs (smalls_nd hap) hr]
      rfl
    · obtain ⟨g, hg, rfl⟩ := List.mem_map.mp h
      exact ⟨_, rfl⟩
  have e3 : (B.blocks.map fun b => (roomOf B.runs b.2).getD 0).sum = (((t.blocks.map Kg46.Block.room).sum : Nat) : Int) := by
    rw [sumI_perm (R.blocks.map fun b => (roomOf B.runs b.2).getD 0), sum_perm (hbl.map Kg46.Block.room), ← sum_cast]
    congr 1
    unfold allB
    rw [List.map_append, List.map_append, List.map_append, List.map_map, List.map_map, List.map_map]
    congr 1
    · have hsub : ∀ r ∈ t.smalls, look B.runs (r.page : Int) = some (mrun r) := fun r hr => by
        rw [R.runs]
        exact look_runs (smalls_nd hap) hr
      generalize t.smalls = l at hsub
      induction l with
      | nil => rfl
      | cons r l ih =>
        rw [List.flatMap_cons, List.flatMap_cons, List.map_append, List.map_append, ih fun x hx => hsub x (List.mem_cons_of_mem _ hx)]
        congr 1
        unfold Kg46.Small.blocks
        rw [List.map_map, List.map_map]
        refine List.map_congr_left fun u _ => ?_
        show ((look B.runs (r.page : Int)).map MRun.small).getD 0 = _
        rw [hsub r List.mem_cons_self]
        rfl
    · rw [List.map_map]
      refine List.map_congr_left fun g hg => ?_
      show pagesOf (g.size : Int) * 4096 = ((g.pages * 4096 : Nat) : Int)
      rw [great_pages g.size (hg1 g hg), R.gok g hg]
  have e4 : B.runBytes = (((t.smalls.map fun r => Kg46.runPages (Kg46.sizeAt r.kind) * Kg46.PAGE).sum + (t.greats.map fun g => g.pages * Kg46.PAGE).sum : Nat) : Int) := by
    unfold MBlocks.runBytes
    rw [greatBytes_eq, sumI_perm (R.blocks.map fun b => match b.2.run with
      | none => pagesOf b.2.size * 4096
      | some _ => 0)]
    have f1 : (B.runs.map fun p => p.2.pages).sum * 4096 = (((t.smalls.map fun r => Kg46.runPages (Kg46.sizeAt r.kind) * Kg46.PAGE).sum : Nat) : Int) := by
      rw [R.runs, List.map_map]
      generalize t.smalls = l
      induction l with
      | nil => rfl
      | cons r l ih =>
        rw [List.map_cons, List.sum_cons, List.map_cons, List.sum_cons, Int.add_mul, ih]
        show (rp r : Int) * 4096 + _ = ((rp r * 4096 + _ : Nat) : Int)
        omega
    rw [f1, Int.natCast_add]
    congr 1
    unfold allB
    rw [List.map_append, List.map_map, ← sum_cast, List.map_map]
    have f2 : ((t.smalls.flatMap fun r => r.used.map (blkS r)).map fun b => match b.2.run with
      | none => pagesOf b.2.size * 4096
      | some _ => 0).sum = 0 := by
      generalize t.smalls = l
      induction l with
      | nil => rfl
      | cons r l ih =>
        rw [List.flatMap_cons, List.map_append, List.sum_append, ih, List.map_map]
        have : ∀ m : List (Nat × Nat), (m.map ((fun b : Int × MBlock => match b.2.run with
          | none => pagesOf b.2.size * 4096
          | some _ => 0) ∘ blkS r)).sum = 0 := fun m => by
          induction m with
          | nil => rfl
          | cons u m ih =>
            rw [List.map_cons, List.sum_cons, ih]
            rfl
        rw [this]
        rfl
    rw [List.sum_append, f2, Int.zero_add]
    congr 1
    refine List.map_congr_left fun g hg => ?_
    show pagesOf (g.size : Int) * 4096 = ((g.pages * 4096 : Nat) : Int)
    rw [great_pages g.size (hg1 g hg), R.gok g hg]
  unfold MBlocks.sums
  rw [rooms_some B.runs B.blocks hroom]
  show some ([(B.blocks.length : Int), (B.blocks.map fun p => p.2.size).sum, (B.blocks.map fun b => (roomOf B.runs b.2).getD 0).sum, B.runBytes] ++ B.pg.sums) = _
  rw [e1, e2, e3, e4, sums_eq RP, es]
  rfl
end GK
end
section
set_option linter.all false
set_option maxRecDepth 100000
namespace GK
/-! ### the house: what is asked -/
abbrev o30 : Sh30.Ask → List Int := Sh30Neutral.askOut
theorem fin_lower (A : MAsks) (s : Sh30.State) (c : Kg46.Call) (f : Sh30.State → Kg46.Ans → Sh30.Prog Sh30.Ans) : fin o30 A (Sh30.lower s c f) = fin o30 ⟨A.ans, (fin o45 A (Kg46.spec s.blocks c)).2.2⟩ (f { s with blocks := (fin o45 A (Kg46.spec s.blocks c)).1 } (fin o45 A (Kg46.spec s.blocks c)).2.1) := by
  unfold Sh30.lower
  rw [fin_andThen, fin_within (out := o45) (out' := o30) (name := Sh30.Ask.below) o30_below (fun b p => by
    funext p2
    cases b with
    | none => rfl
    | some t => rfl) (Kg46.spec s.blocks c) A (some s) (fun p => rfl)]
  rfl
theorem fin_tell (A : MAsks) (s : Sh30.State) (kind place : Nat) (a b : Int) (who : Nat) (f : Sh30.State → Sh30.Prog Sh30.Ans) : fin o30 A (Sh30.tell s kind place a b who f) = fin o30 (A.add [3, (kind : Int), (place : Int), a, b, (who : Int)]) (f { s with found := Sh30.bump s.found (kind - 1) }) := by
  unfold Sh30.tell
  rw [fin_ask]
  rfl
/-- how often each kind was told -/
def Kinds (k : List Int) (f : List Nat) : Prop := f.length = 7 ∧ ∃ x, k = x :: f.map fun (n : Nat) => (n : Int)
theorem kinds_tell {k : List Int} {f : List Nat} (h : Kinds k f) {i : Nat} (h1 : 1 ≤ i) (h2 : i ≤ 7) : ∃ n, k[i]? = some n ∧ Kinds (k.set i (n + 1)) (Sh30.bump f (i - 1)) := by
  obtain ⟨hl, x, rfl⟩ := h
  obtain ⟨j, rfl⟩ : ∃ j, i = j + 1 := ⟨i - 1, by omega⟩
  have hj : j < f.length := by omega
  refine ⟨(f[j] : Int), ?_, ?_, x, ?_⟩
  · rw [List.getElem?_cons_succ, List.getElem?_map, List.getElem?_eq_getElem hj]
    rfl
  · unfold Sh30.bump
    rw [List.length_set, hl]
  · rw [List.set_cons_succ]
    unfold Sh30.bump
    rw [Nat.add_sub_cancel, List.map_set, List.getD_eq_getElem?_getD, List.getElem?_eq_getElem hj]
    rfl
theorem tell_sim {A : MAsks} {h : MHouse} {s : Sh30.State} {kind place : Nat} {a b : Int} {who : Nat} (hk : Kinds h.kinds s.found) (h1 : 1 ≤ kind) (h2 : kind ≤ 7) (hr : A.rows.length < LIM) :
    ∃ ks, h.tell A (kind : Int) (place : Int) a b (who : Int) = some (A.add [3, (kind : Int), (place : Int), a, b, (who : Int)], { h with kinds := ks }) ∧ Kinds ks (Sh30.bump s.found (kind - 1)) := by
  obtain ⟨n, e1, e2⟩ := kinds_tell hk h1 h2
  refine ⟨h.kinds.set kind (n + 1), ?_, e2⟩
  unfold MHouse.tell
  rw [Int.toNat_natCast, e1]
  show (if (0 : Int) ≤ (kind : Int) then (A.tell (kind : Int) (place : Int) a b (who : Int)).bind _ else none) = _
  rw [if_pos (by omega), tell_eq _ _ _ _ _ hr]
  rfl
end GK
end
section
set_option linter.all false
set_option maxRecDepth 100000
namespace GK
/-! ### pieces -/
/-- a piece of the mirror and one of the Spec, the bytes apart -/
structure PcRel (g : Nat) (p : MPiece) (x : Sh30.Piece) : Prop where
  number : p.number = (x.number : Int)
  block : p.block = (x.block : Int)
  place : p.place = (x.place : Int)
  size : p.size = (x.size : Int)
  guard : p.guard = (g : Int)
  who : p.who = (x.who : Int)
  held : p.held = !x.lives
  giver : p.giver = (((x.gone.getD (0, 0)).1 : Nat) : Int)
  front : x.block ≤ x.place
  total : x.total = (x.place - x.block) + x.size + g
/-- its bytes: others are those that aren't the usual ones -/
structure PcBytes (p : MPiece) (x : Sh30.Piece) (byte : Nat → Nat) : Prop where
  nd : (p.others.map (·.1)).Nodup
  keys : ∀ y ∈ p.others, (x.block : Int) ≤ y.1 ∧ y.1 < ((x.block + x.total : Nat) : Int)
  vals : ∀ y ∈ p.others, y.2 ≠ p.usual y.1 ∧ y.2 < 256
  byte : ∀ j, x.block ≤ j → j < x.block + x.total → p.byte (j : Int) = (byte j : Int)
theorem guardByte_eq (j : Nat) : guardByte (j : Int) = (Sh30.guardByte j : Int) := by
  unfold guardByte Sh30.guardByte
  omega
theorem PcBytes.len {p : MPiece} {x : Sh30.Piece} {byte : Nat → Nat} (B : PcBytes p x byte) : p.others.length ≤ x.total := by
  have h : ∀ (n : Nat) (l : List Int) (lo : Int), l.Nodup → (∀ k ∈ l, lo ≤ k ∧ k < lo + (n : Int)) → l.length ≤ n := by
    intro n
    induction n with
    | zero =>
      intro l lo _ hk
      cases l with
      | nil => exact Nat.le_refl _
      | cons a l =>
        have := hk a List.mem_cons_self
        omega
    | succ n ih =>
      intro l lo hn hk
      have h1 := ih (l.filter fun k => decide (k ≠ lo)) (lo + 1) (hn.filter _) fun k hm => by
        obtain ⟨a, b⟩ := List.mem_filter.mp hm
        have := hk k a
        have := of_decide_eq_true b
        omega
      have h2 : l.length ≤ (l.filter fun k => decide (k ≠ lo)).length + 1 := by
        clear ih h1 hk
        induction l with
        | nil => exact Nat.zero_le _
        | cons a l ih =>
          rw [List.nodup_cons] at hn
          rw [List.filter_cons]
          by_cases c : a = lo
          · rw [if_neg (by simp [c])]
            have : (l.filter fun k => decide (k ≠ lo)) = l := List.filter_eq_self.mpr fun k hk => decide_eq_true fun e => hn.1 (by rw [c, ← e]; exact hk)
            rw [this]
            exact Nat.le_refl _
          · rw [if_pos (by simpa using c), List.length_cons, List.length_cons]
            have := ih hn.2
            omega
      omega
  have := h x.total (p.others.map (·.1)) (x.block : Int) B.nd fun k hk => by
    obtain ⟨y, hy, rfl⟩ := List.mem_map.mp hk
    have := B.keys y hy
    omega
  rw [List.length_map] at this
  exact this
/-- where a byte isn't the usual one -/
theorem PcBytes.odd {p : MPiece} {x : Sh30.Piece} {byte : Nat → Nat} (B : PcBytes p x byte) {j : Nat} (h1 : x.block ≤ j) (h2 : j < x.block + x.total) : (j : Int) ∈ p.others.map (·.1) ↔ (byte j : Int) ≠ p.usual (j : Int) := by
  have hb := B.byte j h1 h2
  unfold MPiece.byte at hb
  constructor
  · intro h e
    obtain ⟨v, hv⟩ := look_of_key h
    rw [hv] at hb
    have hb : v = (byte j : Int) := hb
    exact (B.vals _ (look_mem' hv)).1 (by show v = _; rw [hb, e])
  · intro h
    cases e : look p.others (j : Int) with
    | none =>
      rw [e] at hb
      exact absurd hb.symm h
    | some v => exact List.mem_map.mpr ⟨_, look_mem' e, rfl⟩
end GK
end
section
set_option linter.all false
set_option maxRecDepth 100000
namespace GK
/-- the odd bytes of a stretch, rising -/
theorem odd_list {p : MPiece} {x : Sh30.Piece} {byte : Nat → Nat} (B : PcBytes p x byte) {a n : Nat} (h1 : x.block ≤ a) (h2 : a + n ≤ x.block + x.total) (c : Int → Bool) (hc : ∀ k ∈ p.others.map (·.1), c k = true ↔ (a : Int) ≤ k ∧ k < ((a + n : Nat) : Int)) (d : Nat → Bool) (hd : ∀ i, i < n → (d i = true ↔ (byte (a + i) : Int) ≠ p.usual ((a + i : Nat) : Int))) :
    isort ((p.others.map (·.1)).filter c) = ((List.range n).filter d).map fun (i : Nat) => ((a + i : Nat) : Int) := by
  symm
  refine isort_uniq ?_ ?_
  · have n1 : (((List.range n).filter d).map fun (i : Nat) => ((a + i : Nat) : Int)).Nodup := by
      have : ((List.range n).filter d).Nodup := List.nodup_range.filter _
      exact this.map _ fun i j h e => h (by
        have e : ((a + i : Nat) : Int) = ((a + j : Nat) : Int) := e
        omega)
    refine (List.perm_ext_iff_of_nodup n1 (B.nd.filter _)).mpr fun k => ?_
    constructor
    · intro h
      obtain ⟨i, hi, rfl⟩ := List.mem_map.mp h
      obtain ⟨hi, hdi⟩ := List.mem_filter.mp hi
      have hi := List.mem_range.mp hi
      have hm := (B.odd (j := a + i) (by omega) (by omega)).mpr ((hd i hi).mp hdi)
      exact List.mem_filter.mpr ⟨hm, (hc _ hm).mpr ⟨by omega, by omega⟩⟩
    · intro h
      obtain ⟨hm, hck⟩ := List.mem_filter.mp h
      obtain ⟨q1, q2⟩ := (hc k hm).mp hck
      obtain ⟨j, rfl⟩ : ∃ j : Nat, k = (j : Int) := ⟨k.toNat, by omega⟩
      refine List.mem_map.mpr ⟨j - a, List.mem_filter.mpr ⟨List.mem_range.mpr (by omega), ?_⟩, by show ((a + (j - a) : Nat) : Int) = (j : Int); omega⟩
      refine (hd (j - a) (by omega)).mpr ?_
      have := (B.odd (j := j) (by omega) (by omega)).mp hm
      rw [show a + (j - a) = j by omega]
      exact this
  · have : ((List.range n).filter d).Pairwise (· < ·) := List.pairwise_lt_range.filter _
    rw [List.pairwise_map]
    exact this.imp fun h => by omega
theorem own_iff {g : Nat} {p : MPiece} {x : Sh30.Piece} (R : PcRel g p x) (j : Nat) : p.isOwn (j : Int) = true ↔ x.place ≤ j ∧ j < x.end_ := by
  unfold MPiece.isOwn MPiece.end_ Sh30.Piece.end_
  rw [Bool.and_eq_true, decide_eq_true_eq, decide_eq_true_eq, R.place, R.size]
  omega
theorem usual_guard {g : Nat} {p : MPiece} {x : Sh30.Piece} (R : PcRel g p x) {j : Nat} (h : ¬ (x.place ≤ j ∧ j < x.end_)) : p.usual (j : Int) = (Sh30.guardByte j : Int) := by
  unfold MPiece.usual
  rw [if_neg fun q => h ((own_iff R j).mp q), guardByte_eq]
theorem usual_own {g : Nat} {p : MPiece} {x : Sh30.Piece} (R : PcRel g p x) {j : Nat} (h : x.place ≤ j ∧ j < x.end_) : p.usual (j : Int) = if x.lives = true then 205 else 221 := by
  unfold MPiece.usual
  rw [if_pos ((own_iff R j).mpr h), R.held]
  cases x.lives <;> rfl
theorem guards_get (a n i : Nat) (h : i < n) : (Sh30.guards a n).getD i 0 = Sh30.guardByte (a + i) := by
  unfold Sh30.guards
  rw [List.getD_eq_getElem?_getD, List.getElem?_map, List.getElem?_range h]
  rfl
theorem guards_length (a n : Nat) : (Sh30.guards a n).length = n := by
  unfold Sh30.guards
  rw [List.length_map, List.length_range]
/-- the Spec's odd bytes of a stretch -/
theorem wrong_eq {s : Sh30.State} {a : Nat} {should : List Nat} (hb : Sh30.bytesAt s.blocks a should.length = (List.range should.length).map fun j => byteH s.blocks (a + j)) : Sh30.wrong s a should = (List.range should.length).filter fun i => byteH s.blocks (a + i) != should.getD i 0 := by
  unfold Sh30.wrong
  rw [hb]
  refine List.filter_congr fun i hi => ?_
  rw [List.getD_eq_getElem?_getD, List.getElem?_map, List.getElem?_range (List.mem_range.mp hi)]
  rfl
end GK
end
section
set_option linter.all false
set_option maxRecDepth 100000
namespace GK
def find4 (f : Sh30.Find) : Int × Int × Int × Int := ((f.kind : Int), (f.far : Int), (f.many : Int), (f.who : Int))
/-- the bytes of a piece's block, as the Spec reads them -/
def Reads (s : Sh30.State) (x : Sh30.Piece) : Prop := ∀ a n, x.block ≤ a → a + n ≤ x.block + x.total → Sh30.bytesAt s.blocks a n = (List.range n).map fun j => byteH s.blocks (a + j)
theorem find_front {g : Nat} {p : MPiece} {x : Sh30.Piece} {s : Sh30.State} (R : PcRel g p x) (B : PcBytes p x (byteH s.blocks)) (hr : Reads s x) : p.wrongFront = (Sh30.wrong s x.block (Sh30.guards x.block (x.place - x.block))).map fun (i : Nat) => ((x.block + i : Nat) : Int) := by
  have ht := R.total
  have hf := R.front
  rw [wrong_eq (by rw [guards_length]; exact hr _ _ (Nat.le_refl _) (by omega)), guards_length]
  unfold MPiece.wrongFront
  refine odd_list B (Nat.le_refl _) (by omega) _ (fun k hk => ?_) _ fun i hi => ?_
  · obtain ⟨y, hy, rfl⟩ := List.mem_map.mp hk
    have := B.keys y hy
    rw [decide_eq_true_eq, R.place]
    omega
  · rw [guards_get _ _ _ hi, usual_guard R (by unfold Sh30.Piece.end_; omega), bne_iff_ne]
    omega
theorem find_back {g : Nat} {p : MPiece} {x : Sh30.Piece} {s : Sh30.State} (R : PcRel g p x) (B : PcBytes p x (byteH s.blocks)) (hr : Reads s x) : p.wrongBack = (Sh30.wrong s x.end_ (Sh30.guards x.end_ (x.block + x.total - x.end_))).map fun (i : Nat) => ((x.end_ + i : Nat) : Int) := by
  have ht := R.total
  have hf := R.front
  have he : x.end_ = x.place + x.size := rfl
  rw [wrong_eq (by rw [guards_length]; exact hr _ _ (by omega) (by omega)), guards_length]
  unfold MPiece.wrongBack
  refine odd_list B (by omega) (by omega) _ (fun k hk => ?_) _ fun i hi => ?_
  · obtain ⟨y, hy, rfl⟩ := List.mem_map.mp hk
    have := B.keys y hy
    rw [decide_eq_true_eq]
    unfold MPiece.end_
    rw [R.place, R.size]
    omega
  · rw [guards_get _ _ _ hi, usual_guard R (by omega), bne_iff_ne]
    omega
theorem find_own {g : Nat} {p : MPiece} {x : Sh30.Piece} {s : Sh30.State} (R : PcRel g p x) (B : PcBytes p x (byteH s.blocks)) (hr : Reads s x) (hl : x.lives = false) : p.wrongBytes = (Sh30.wrong s x.place (List.replicate x.size Sh30.GONE)).map fun (i : Nat) => ((x.place + i : Nat) : Int) := by
  have ht := R.total
  have hf := R.front
  have he : x.end_ = x.place + x.size := rfl
  rw [wrong_eq (by rw [List.length_replicate]; exact hr _ _ (by omega) (by omega)), List.length_replicate]
  unfold MPiece.wrongBytes
  rw [R.held, hl, if_pos (by decide)]
  refine odd_list B (by omega) (by omega) _ (fun k hk => ?_) _ fun i hi => ?_
  · obtain ⟨y, hy, rfl⟩ := List.mem_map.mp hk
    have hk := B.keys y hy
    obtain ⟨j, ej⟩ : ∃ j : Nat, y.1 = (j : Int) := ⟨y.1.toNat, by omega⟩
    rw [ej, own_iff R j]
    omega
  · have e : (List.replicate x.size Sh30.GONE).getD i 0 = 221 := by
      rw [List.getD_eq_getElem?_getD, List.getElem?_replicate, if_pos hi]
      rfl
    rw [e, usual_own R (by omega), hl, if_neg (by decide), bne_iff_ne]
    omega
theorem last_map {α β : Type} (f : α → β) (d : α) (l : List α) (h : l ≠ []) : (l.map f).getLast? = some (f (l.getLastD d)) := by
  rw [List.getLast?_map]
  cases e : l.getLast? with
  | none => exact absurd (List.getLast?_eq_none_iff.mp e) h
  | some x =>
    rw [List.getLastD_eq_getLast?, e]
    rfl
theorem findings_eq2 {g : Nat} {p : MPiece} {x : Sh30.Piece} {s : Sh30.State} (R : PcRel g p x) (B : PcBytes p x (byteH s.blocks)) (hr : Reads s x) : p.findings = (Sh30.findsOf s x).map find4 := by
  have ht := R.total
  have hf := R.front
  have he : x.end_ = x.place + x.size := rfl
  unfold MPiece.findings Sh30.findsOf
  rw [find_front R B hr, find_back R B hr, List.map_append, List.map_append]
  congr 1
  · generalize ha : Sh30.wrong s x.block (Sh30.guards x.block (x.place - x.block)) = a
    by_cases c : a = []
    · rw [if_pos c, c]
      rfl
    · rw [if_neg c, last_map _ 0 _ c]
      have hlt : a.getLastD 0 < x.place - x.block := by
        have hm : a.getLastD 0 ∈ a := by
          rw [List.getLastD_eq_getLast?]
          cases e : a.getLast? with
          | none => exact absurd (List.getLast?_eq_none_iff.mp e) c
          | some y => exact List.mem_of_getLast? e
        have hsub : ∀ i ∈ a, i ∈ List.range (Sh30.guards x.block (x.place - x.block)).length := fun i hi => by
          rw [← ha] at hi
          unfold Sh30.wrong at hi
          exact (List.mem_filter.mp hi).1
        have := List.mem_range.mp (hsub _ hm)
        rw [guards_length] at this
        exact this
      show [((4 : Int), p.place - ((x.block + a.getLastD 0 : Nat) : Int), ((a.map _).length : Int), p.who)] = [((4 : Int), ((x.place - x.block - a.getLastD 0 : Nat) : Int), (a.length : Int), (x.who : Int))]
      rw [R.place, R.who, List.length_map, show (x.place : Int) - ((x.block + a.getLastD 0 : Nat) : Int) = ((x.place - x.block - a.getLastD 0 : Nat) : Int) by omega]
  congr 1
  · generalize ha : Sh30.wrong s x.end_ (Sh30.guards x.end_ (x.block + x.total - x.end_)) = a
    cases a with
    | nil => rfl
    | cons i l =>
      rw [if_neg (List.cons_ne_nil _ _)]
      show [((5 : Int), ((x.end_ + i : Nat) : Int) - p.end_ + 1, (((i :: l).map _).length : Int), p.who)] = [((5 : Int), ((i + 1 : Nat) : Int), ((i :: l).length : Int), (x.who : Int))]
      rw [List.length_map, R.who]
      unfold MPiece.end_
      rw [R.place, R.size, show ((x.end_ + i : Nat) : Int) - ((x.place : Int) + (x.size : Int)) + 1 = ((i + 1 : Nat) : Int) by omega]
  · cases hg : x.gone with
    | none =>
      have hl : x.lives = true := by
        unfold Sh30.Piece.lives
        rw [hg]
        rfl
      unfold MPiece.wrongBytes
      rw [R.held, hl, if_neg (by decide)]
      rfl
    | some w =>
      have hl : x.lives = false := by
        unfold Sh30.Piece.lives
        rw [hg]
        rfl
      rw [find_own R B hr hl]
      show _ = List.map find4 (if Sh30.wrong s x.place (List.replicate x.size Sh30.GONE) = [] then [] else _)
      generalize ha : Sh30.wrong s x.place (List.replicate x.size Sh30.GONE) = a
      cases a with
      | nil => rfl
      | cons i l =>
        rw [if_neg (List.cons_ne_nil _ _)]
        show [((6 : Int), ((x.place + i : Nat) : Int) - p.place, (((i :: l).map _).length : Int), p.giver)] = [((6 : Int), ((i : Nat) : Int), ((i :: l).length : Int), (w.1 : Int))]
        rw [List.length_map, R.giver, hg, R.place, show ((x.place + i : Nat) : Int) - (x.place : Int) = (i : Int) by omega]
        rfl
end GK
end
section
set_option linter.all false
set_option maxRecDepth 100000
namespace GK
/-- the house but for what the calls differ in -/
structure RelH (h : MHouse) (s : Sh30.State) (t : Kg46.State) (F : Nat → MPiece) : Prop where
  bl : s.blocks = some t
  rb : RelB h.bl t
  guard : h.guard = (s.guard : Int)
  g1 : 16 ≤ s.guard
  g2 : s.guard ≤ 4096
  hold : h.mostHeld = (s.hold : Int)
  next : h.next = (s.next : Int)
  pcs : h.pieces = s.pieces.map fun x => ((x.number : Int), F x.number)
  rel : ∀ x ∈ s.pieces, PcRel s.guard (F x.number) x
  byt : ∀ x ∈ s.pieces, PcBytes (F x.number) x (byteH s.blocks)
  num : (s.pieces.map Sh30.Piece.number).Pairwise (· < ·)
  lt : ∀ x ∈ s.pieces, x.number < s.next
  dead : ∀ d ∈ h.dead, d.1 < (s.next : Int) ∧ ∀ x ∈ s.pieces, d.1 ≠ (x.number : Int)
  blk : ((allB t).map fun b => (b.1, b.2.size)).Perm (s.pieces.map fun x => ((x.block : Int), (x.total : Int)))
  wait : ∃ w : List Sh30.Piece, h.waiting = w.map (fun x => (x.number : Int)) ∧ w.Perm s.held ∧ (w.map fun x => (x.gone.getD (0, 0)).2).Pairwise (· < ·) ∧ ∀ x ∈ w, (x.gone.getD (0, 0)).2 < s.clock
  kinds : Kinds h.kinds s.found
  size : ∀ x ∈ s.pieces, x.size ≤ 1048576
  wide : ∀ x ∈ s.pieces, x.total ≤ 2000000
  many : s.pieces.length ≤ 65536
theorem RelH.nums {h : MHouse} {s : Sh30.State} {t : Kg46.State} {F : Nat → MPiece} (R : RelH h s t F) : (s.pieces.map Sh30.Piece.number).Nodup := R.num.imp fun h => Nat.ne_of_lt h
theorem RelH.keys {h : MHouse} {s : Sh30.State} {t : Kg46.State} {F : Nat → MPiece} (R : RelH h s t F) : (h.pieces.map (·.1)).Nodup := by
  rw [R.pcs, List.map_map]
  have e : (s.pieces.map ((fun x : Int × MPiece => x.1) ∘ fun x => ((x.number : Int), F x.number))) = (s.pieces.map Sh30.Piece.number).map fun (n : Nat) => (n : Int) := by
    rw [List.map_map]
    rfl
  rw [e]
  exact R.nums.map (fun n : Nat => (n : Int)) fun a b h hab => h (by omega)
theorem RelH.look {h : MHouse} {s : Sh30.State} {t : Kg46.State} {F : Nat → MPiece} (R : RelH h s t F) {x : Sh30.Piece} (hx : x ∈ s.pieces) : look h.pieces (x.number : Int) = some (F x.number) := look_of_mem R.keys (by rw [R.pcs]; exact List.mem_map.mpr ⟨x, hx, rfl⟩)
theorem RelH.has {h : MHouse} {s : Sh30.State} {t : Kg46.State} {F : Nat → MPiece} (R : RelH h s t F) {x : Sh30.Piece} (hx : x ∈ s.pieces) : hasB t.smalls t.greats x.block x.total := by
  have := R.blk.mem_iff.mpr (List.mem_map.mpr ⟨x, hx, rfl⟩)
  obtain ⟨b, hb, e⟩ := List.mem_map.mp this
  have e1 : b.1 = (x.block : Int) := congrArg Prod.fst e
  have e2 : b.2.size = (x.total : Int) := congrArg Prod.snd e
  refine ⟨b.2.run, ?_⟩
  rw [← e1, ← e2]
  exact hb
theorem RelH.reads {h : MHouse} {s : Sh30.State} {t : Kg46.State} {F : Nat → MPiece} (R : RelH h s t F) {x : Sh30.Piece} (hx : x ∈ s.pieces) : Reads s x := fun a n h1 h2 => by
  rw [R.bl]
  exact bytesAt46 (R.has hx) ⟨t, rfl, R.rb, rfl, rfl⟩ h1 h2
theorem RelH.finds {h : MHouse} {s : Sh30.State} {t : Kg46.State} {F : Nat → MPiece} (R : RelH h s t F) {x : Sh30.Piece} (hx : x ∈ s.pieces) : (F x.number).findings = (Sh30.findsOf s x).map find4 := findings_eq2 (R.rel x hx) (R.byt x hx) (R.reads hx)
end GK
end
section
set_option linter.all false
set_option maxRecDepth 100000
namespace GK
/-- blocks that share a byte are one -/
theorem allB_apart {B : MBlocks} {t : Kg46.State} (R : RelB B t) {p m q n j : Nat} (h1 : hasB t.smalls t.greats p m) (h2 : hasB t.smalls t.greats q n) (a : p ≤ j) (b : j < p + m) (c : q ≤ j) (d : j < q + n) : p = q := by
  have hap := R.apart
  obtain ⟨r1, h1⟩ := h1
  obtain ⟨r2, h2⟩ := h2
  have hz : ∀ r ∈ t.smalls, 16 ≤ sz r := fun r hr => (size_facts r.kind (R.sok r hr).kind).1
  have hgt : ∀ g ∈ t.greats, g.size ≤ g.pages * 4096 := fun g hg => by
    rw [R.gok g hg]
    unfold Kg46.pagesFor
    have : Kg46.PAGE = 4096 := rfl
    rw [this]
    omega
  rcases List.mem_append.mp h1 with h1 | h1
  · obtain ⟨x, hx, h1⟩ := List.mem_flatMap.mp h1
    obtain ⟨u, hu, e⟩ := List.mem_map.mp h1
    have e1 : (keyS x u : Int) = (p : Int) := congrArg Prod.fst e
    have e2 : (u.2 : Int) = (m : Int) := congrArg (fun x : Int × MBlock => x.2.size) e
    obtain ⟨k1, k2⟩ := key_in (R.sok x hx) ((R.sok x hx).lt u hu)
    have hf := (R.sok x hx).fit u hu
    rcases List.mem_append.mp h2 with h2 | h2
    · obtain ⟨y, hy, h2⟩ := List.mem_flatMap.mp h2
      obtain ⟨v, hv, e⟩ := List.mem_map.mp h2
      have e3 : (keyS y v : Int) = (q : Int) := congrArg Prod.fst e
      have e4 : (v.2 : Int) = (n : Int) := congrArg (fun x : Int × MBlock => x.2.size) e
      obtain ⟨k3, k4⟩ := key_in (R.sok y hy) ((R.sok y hy).lt v hv)
      have hf2 := (R.sok y hy).fit v hv
      have hs := hap.same _ (mem_runsS hx) _ (mem_runsS hy) (j / 4096) (by show x.page ≤ _; omega) (by show _ < x.page + rp x; omega) (by show y.page ≤ _; omega) (by show _ < y.page + rp y; omega)
      have exy : x = y := nodup_eq (smalls_nd hap) hx hy (congrArg Prod.fst hs)
      subst exy
      unfold keyS at e1 e3
      rcases Nat.lt_trichotomy u.1 v.1 with w | w | w
      · have : (u.1 + 1) * sz x ≤ v.1 * sz x := Nat.mul_le_mul_right _ w
        rw [Nat.add_mul] at this
        omega
      · rw [w] at e1
        omega
      · have : (v.1 + 1) * sz x ≤ u.1 * sz x := Nat.mul_le_mul_right _ w
        rw [Nat.add_mul] at this
        omega
    · obtain ⟨g, hg, e⟩ := List.mem_map.mp h2
      have e3 : ((g.page * 4096 : Nat) : Int) = (q : Int) := congrArg Prod.fst e
      have e4 : (g.size : Int) = (n : Int) := congrArg (fun x : Int × MBlock => x.2.size) e
      have hg2 := hgt g hg
      have hs := hap.same _ (mem_runsS hx) _ (mem_runsG hg) (j / 4096) (by show x.page ≤ _; omega) (by show _ < x.page + rp x; omega) (by show g.page ≤ _; omega) (by show _ < g.page + g.pages; omega)
      exact absurd (congrArg Prod.fst hs) (small_great hap hx hg)
  · obtain ⟨g, hg, e⟩ := List.mem_map.mp h1
    have e1 : ((g.page * 4096 : Nat) : Int) = (p : Int) := congrArg Prod.fst e
    have e2 : (g.size : Int) = (m : Int) := congrArg (fun x : Int × MBlock => x.2.size) e
    have hg2 := hgt g hg
    rcases List.mem_append.mp h2 with h2 | h2
    · obtain ⟨y, hy, h2⟩ := List.mem_flatMap.mp h2
      obtain ⟨v, hv, e⟩ := List.mem_map.mp h2
      have e3 : (keyS y v : Int) = (q : Int) := congrArg Prod.fst e
      have e4 : (v.2 : Int) = (n : Int) := congrArg (fun x : Int × MBlock => x.2.size) e
      obtain ⟨k3, k4⟩ := key_in (R.sok y hy) ((R.sok y hy).lt v hv)
      have hf2 := (R.sok y hy).fit v hv
      have hs := hap.same _ (mem_runsS hy) _ (mem_runsG hg) (j / 4096) (by show y.page ≤ _; omega) (by show _ < y.page + rp y; omega) (by show g.page ≤ _; omega) (by show _ < g.page + g.pages; omega)
      exact absurd (congrArg Prod.fst hs) (small_great hap hy hg)
    · obtain ⟨g', hg', e⟩ := List.mem_map.mp h2
      have e3 : ((g'.page * 4096 : Nat) : Int) = (q : Int) := congrArg Prod.fst e
      have e4 : (g'.size : Int) = (n : Int) := congrArg (fun x : Int × MBlock => x.2.size) e
      have hg3 := hgt g' hg'
      have hs := hap.same _ (mem_runsG hg) _ (mem_runsG hg') (j / 4096) (by show g.page ≤ _; omega) (by show _ < g.page + g.pages; omega) (by show g'.page ≤ _; omega) (by show _ < g'.page + g'.pages; omega)
      have : g.page = g'.page := congrArg Prod.fst hs
      omega
theorem RelH.blocks_nd {h : MHouse} {s : Sh30.State} {t : Kg46.State} {F : Nat → MPiece} (R : RelH h s t F) : (s.pieces.map Sh30.Piece.block).Nodup := by
  have h1 := keys_nodup R.rb.apart R.rb.sok
  have h2 := (R.blk.map (·.1)).nodup_iff.mp (by rw [List.map_map]; exact h1)
  rw [List.map_map] at h2
  have e : (s.pieces.map ((fun x : Int × Int => x.1) ∘ fun x => ((x.block : Int), (x.total : Int)))) = (s.pieces.map Sh30.Piece.block).map fun (n : Nat) => (n : Int) := by
    rw [List.map_map]
    rfl
  rw [e] at h2
  exact List.Pairwise.of_map (fun n : Nat => (n : Int)) (fun a b hab e => hab (by rw [e])) h2
theorem RelH.apart {h : MHouse} {s : Sh30.State} {t : Kg46.State} {F : Nat → MPiece} (R : RelH h s t F) {x y : Sh30.Piece} (hx : x ∈ s.pieces) (hy : y ∈ s.pieces) {j : Nat} (a : x.block ≤ j) (b : j < x.block + x.total) (c : y.block ≤ j) (d : j < y.block + y.total) : x = y :=
  nodup_eq R.blocks_nd hx hy (allB_apart R.rb (R.has hx) (R.has hy) a b c d)
end GK
end
section
set_option linter.all false
set_option maxRecDepth 100000
namespace GK
theorem RelH.fill {h : MHouse} {s : Sh30.State} {t : Kg46.State} {F : Nat → MPiece} (R : RelH h s t F) {x : Sh30.Piece} (hx : x ∈ s.pieces) {at_ : Nat} {b : List Nat} (h1 : x.block ≤ at_) (h2 : at_ + b.length ≤ x.block + x.total) (hby : ∀ y ∈ b, y < 256) :
    ∃ t', Sh30.filled s at_ b = { s with blocks := some t' } ∧ RelB h.bl t' ∧ t'.smalls = t.smalls ∧ t'.greats = t.greats ∧ Puts (byteH s.blocks) (byteH (some t')) at_ b := by
  obtain ⟨⟨t', e, Rb, e1, e2⟩, hp⟩ := putAt46 (R.has hx) (h := s.blocks) (B := h.bl) (at_ := at_) (b := b) ⟨t, R.bl, R.rb, rfl, rfl⟩ h1 h2 hby
  refine ⟨t', ?_, Rb, e1, e2, ?_⟩
  · unfold Sh30.filled
    rw [e]
  · rw [e] at hp
    exact hp
def upF (F : Nat → MPiece) (n : Nat) (p : MPiece) : Nat → MPiece := fun k => if k = n then p else F k
/-- the house with other bytes in one piece -/
theorem RelH.bytes {h : MHouse} {s : Sh30.State} {t t' : Kg46.State} {F : Nat → MPiece} (R : RelH h s t F) {x : Sh30.Piece} (hx : x ∈ s.pieces) (Rb : RelB h.bl t') (e1 : t'.smalls = t.smalls) (e2 : t'.greats = t.greats)
    (ho : ∀ j, ¬ (x.block ≤ j ∧ j < x.block + x.total) → byteH (some t') j = byteH s.blocks j) {p : MPiece} (hr : PcRel s.guard p x) (hb : PcBytes p x (byteH (some t'))) : RelH { h with pieces := put h.pieces (x.number : Int) p } { s with blocks := some t' } t' (upF F x.number p) := by
  have hpieces : put h.pieces (x.number : Int) p = s.pieces.map fun y => ((y.number : Int), upF F x.number p y.number) := by
    rw [put_map (R.look hx), R.pcs, List.map_map]
    refine List.map_congr_left fun y hy => ?_
    show (if (y.number : Int) = (x.number : Int) then ((y.number : Int), p) else ((y.number : Int), F y.number)) = ((y.number : Int), upF F x.number p y.number)
    unfold upF
    by_cases c : y.number = x.number
    · rw [if_pos (by omega), if_pos c]
    · rw [if_neg (by omega), if_neg c]
  refine ⟨rfl, Rb, R.guard, R.g1, R.g2, R.hold, R.next, hpieces, fun y hy => ?_, fun y hy => ?_, R.num, R.lt, R.dead, ?_, R.wait, R.kinds, R.size, R.wide, R.many⟩
  · unfold upF
    by_cases c : y.number = x.number
    · have : y = x := nodup_eq R.nums hy hx c
      rw [if_pos c, this]
      exact hr
    · rw [if_neg c]
      exact R.rel y hy
  · unfold upF
    by_cases c : y.number = x.number
    · have : y = x := nodup_eq R.nums hy hx c
      rw [if_pos c, this]
      exact hb
    · rw [if_neg c]
      have hB := R.byt y hy
      refine ⟨hB.nd, hB.keys, hB.vals, fun j j1 j2 => ?_⟩
      rw [hB.byte j j1 j2]
      show _ = ((byteH (some t') j : Nat) : Int)
      rw [ho j fun q => c (by rw [R.apart hy hx j1 j2 q.1 q.2])]
  · have : allB t' = allB t := by
      unfold allB
      rw [e1, e2]
    rw [this]
    exact R.blk
end GK
end
section
set_option linter.all false
set_option maxRecDepth 100000
namespace GK
theorem popAll_eq : ∀ (ks : List Int) (o : List (Int × Int)), ks.Nodup → (∀ k ∈ ks, k ∈ o.map (·.1)) → popAll ks o = some (o.filter fun y => decide (y.1 ∉ ks))
  | [], o, _, _ => by
    unfold popAll
    rw [List.filter_eq_self.mpr fun y _ => by simp]
  | k :: ks, o, hn, h => by
    rw [List.nodup_cons] at hn
    obtain ⟨v, hv⟩ := look_of_key (h k List.mem_cons_self)
    unfold popAll
    rw [hv, if_pos (show (some v).isSome = true from rfl), popAll_eq ks (del o k) hn.2 fun j hj => by
      obtain ⟨y, hy, e⟩ := List.mem_map.mp (h j (List.mem_cons_of_mem _ hj))
      refine List.mem_map.mpr ⟨y, del_mem.mpr ⟨fun q => hn.1 (by rw [← q, e]; exact hj), hy⟩, e⟩]
    congr 1
    unfold del
    rw [List.filter_filter]
    refine List.filter_congr fun y _ => ?_
    rw [Bool.eq_iff_iff]
    simp
    constructor
    · rintro ⟨a, b⟩
      exact ⟨b, a⟩
    · rintro ⟨a, b⟩
      exact ⟨b, a⟩
end GK
end
section
set_option linter.all false
set_option maxRecDepth 100000
namespace GK
/-- a piece put right: what's left of its others -/
theorem right_eq (p : MPiece) (hn : (p.others.map (·.1)).Nodup) (hdis : ∀ k ∈ p.others.map (·.1), ¬ (k < p.place ∧ p.end_ ≤ k)) (hle : p.place ≤ p.end_) : p.putRight = some { p with others := p.others.filter fun y => p.isOwn y.1 && !p.held } := by
  have hm : ∀ k, k ∈ p.wrongFront ++ p.wrongBack ++ p.wrongBytes ↔ k ∈ p.others.map (·.1) ∧ (p.isOwn k && !p.held) = false := fun k => by
    unfold MPiece.wrongFront MPiece.wrongBack MPiece.wrongBytes MPiece.isOwn
    rw [List.mem_append, List.mem_append, (isort_perm _).mem_iff, (isort_perm _).mem_iff, List.mem_filter, List.mem_filter, decide_eq_true_eq, decide_eq_true_eq]
    cases p.held with
    | true =>
      rw [if_pos rfl, (isort_perm _).mem_iff, List.mem_filter, Bool.and_eq_true, decide_eq_true_eq, decide_eq_true_eq, Bool.not_true, Bool.and_false]
      constructor
      · rintro ((h | h) | h) <;> exact ⟨h.1, rfl⟩
      · rintro ⟨h, _⟩
        by_cases c : k < p.place
        · exact .inl (.inl ⟨h, c⟩)
        · by_cases d : p.end_ ≤ k
          · exact .inl (.inr ⟨h, d⟩)
          · exact .inr ⟨h, by omega, by omega⟩
    | false =>
      rw [if_neg (by decide), Bool.not_false, Bool.and_true, Bool.and_eq_false_iff, decide_eq_false_iff_not, decide_eq_false_iff_not]
      constructor
      · rintro ((h | h) | h)
        · exact ⟨h.1, .inl (by omega)⟩
        · exact ⟨h.1, .inr (by omega)⟩
        · cases h
      · rintro ⟨h, c | c⟩
        · exact .inl (.inl ⟨h, by omega⟩)
        · exact .inl (.inr ⟨h, by omega⟩)
  have hnd : (p.wrongFront ++ p.wrongBack ++ p.wrongBytes).Nodup := by
    have n1 : ∀ c : Int → Bool, (isort ((p.others.map (·.1)).filter c)).Nodup := fun c => (isort_perm _).nodup_iff.mpr (hn.filter _)
    unfold MPiece.wrongFront MPiece.wrongBack MPiece.wrongBytes
    refine List.nodup_append.mpr ⟨List.nodup_append.mpr ⟨n1 _, n1 _, fun a ha b hb e => ?_⟩, ?_, fun a ha b hb e => ?_⟩
    · rw [(isort_perm _).mem_iff, List.mem_filter, decide_eq_true_eq] at ha hb
      omega
    · split
      · exact n1 _
      · exact List.nodup_nil
    · split at hb
      · rw [(isort_perm _).mem_iff, List.mem_filter] at hb
        have hb2 := hb.2
        unfold MPiece.isOwn at hb2
        rw [Bool.and_eq_true, decide_eq_true_eq, decide_eq_true_eq] at hb2
        rw [List.mem_append, (isort_perm _).mem_iff, (isort_perm _).mem_iff, List.mem_filter, List.mem_filter, decide_eq_true_eq, decide_eq_true_eq] at ha
        omega
      · cases hb
  unfold MPiece.putRight
  rw [popAll_eq _ _ hnd fun k hk => ((hm k).mp hk).1]
  show some _ = _
  congr 2
  refine List.filter_congr fun y hy => ?_
  have hk : y.1 ∈ p.others.map (·.1) := List.mem_map.mpr ⟨y, hy, rfl⟩
  cases e : (p.isOwn y.1 && !p.held) with
  | true => exact decide_eq_true fun q => by rw [((hm y.1).mp q).2] at e; cases e
  | false => exact decide_eq_false fun q => q ((hm y.1).mpr ⟨hk, e⟩)
end GK
end
section
set_option linter.all false
set_option maxRecDepth 100000
namespace GK
/-- the bytes behind some finds put right, one after another -/
def mend : List Sh30.Find → (Nat → Nat) → Nat → Nat
  | [], old => old
  | x :: l, old => mend l fun j => if x.at_ ≤ j ∧ j < x.at_ + x.should.length then x.should.getD (j - x.at_) 0 else old j
def InP (x : Sh30.Piece) (y : Sh30.Find) : Prop := x.block ≤ y.at_ ∧ y.at_ + y.should.length ≤ x.block + x.total ∧ (∀ z ∈ y.should, z < 256) ∧ 1 ≤ y.kind ∧ y.kind ≤ 7
theorem mend_congr : ∀ (l : List Sh30.Find) {a b : Nat → Nat}, (∀ j, a j = b j) → ∀ j, mend l a j = mend l b j
  | [], _, _, h, j => h j
  | x :: l, a, b, h, j => mend_congr l (fun j => by rw [h j]) j
theorem tellAll_sim {x : Sh30.Piece} {place : Nat} {f : Sh30.State → Sh30.Prog Sh30.Ans} : ∀ (l : List Sh30.Find) (A : MAsks) (h : MHouse) (s : Sh30.State) (t : Kg46.State), s.blocks = some t → RelB h.bl t → hasB t.smalls t.greats x.block x.total → (∀ y ∈ l, InP x y) → Kinds h.kinds s.found →
    (fin o30 A (Sh30.tellAll place l s f)).2.2.length ≤ LIM → ∃ A' ks fo t', tellL (place : Int) A h (l.map find4) = some (A', { h with kinds := ks }) ∧ A'.ans = A.ans ∧ RelB h.bl t' ∧ t'.smalls = t.smalls ∧ t'.greats = t.greats ∧ Kinds ks fo ∧ (∀ j, byteH (some t') j = mend l (byteH (some t)) j) ∧
      fin o30 A (Sh30.tellAll place l s f) = fin o30 A' (f { s with blocks := some t', found := fo })
  | [], A, h, s, t, e, R, hB, hl, hk, hb => ⟨A, h.kinds, s.found, t, rfl, rfl, R, rfl, rfl, hk, fun j => rfl, by
      show fin o30 A (f s) = _
      rw [← e]⟩
  | y :: l, A, h, s, t, e, R, hB, hl, hk, hb => by
    obtain ⟨h1, h2, h3, h4, h5⟩ := hl y List.mem_cons_self
    obtain ⟨⟨t1, e1, R1, s1, g1⟩, hp⟩ := putAt46 hB (h := s.blocks) (B := h.bl) (at_ := y.at_) (b := y.should) ⟨t, e, R, rfl, rfl⟩ h1 h2 h3
    have ef : Sh30.filled s y.at_ y.should = { s with blocks := some t1 } := by
      unfold Sh30.filled
      rw [e1]
    have eu : Sh30.tellAll place (y :: l) s f = Sh30.tell { s with blocks := some t1 } y.kind place (y.far : Nat) (y.many : Nat) y.who fun t => Sh30.tellAll place l t f := by
      show Sh30.tell (Sh30.filled s y.at_ y.should) y.kind place (y.far : Nat) (y.many : Nat) y.who _ = _
      rw [ef]
    rw [eu, fin_tell] at hb
    obtain ⟨ks, k1, k2⟩ := tell_sim (h := h) (s := s) (place := place) (a := (y.far : Int)) (b := (y.many : Int)) (who := y.who) hk h4 h5 (fin_room hb)
    obtain ⟨A', ks', fo, t', q1, q2, q3, q4, q5, q6, q7, q8⟩ := tellAll_sim l (A.add [3, (y.kind : Int), (place : Int), (y.far : Int), (y.many : Int), (y.who : Int)]) { h with kinds := ks } { s with blocks := some t1, found := Sh30.bump s.found (y.kind - 1) } t1 rfl R1 (by rw [s1, g1]; exact hB) (fun z hz => hl z (List.mem_cons_of_mem _ hz)) k2 hb
    refine ⟨A', ks', fo, t', ?_, q2, q3, by rw [q4, s1], by rw [q5, g1], q6, fun j => ?_, ?_⟩
    · show (h.tell A (y.kind : Int) (place : Int) (y.far : Int) (y.many : Int) (y.who : Int)).bind _ = _
      rw [k1]
      exact q1
    · rw [q7 j]
      refine mend_congr l (fun j => ?_) j
      rw [e1, e] at hp
      exact hp j
    · rw [eu, fin_tell]
      exact q8
end GK
end
section
set_option linter.all false
set_option maxRecDepth 100000
namespace GK
def fillB (at_ : Nat) (should : List Nat) (old : Nat → Nat) (j : Nat) : Nat := if at_ ≤ j ∧ j < at_ + should.length then should.getD (j - at_) 0 else old j
theorem mend_append : ∀ (l m : List Sh30.Find) (old : Nat → Nat), mend (l ++ m) old = mend m (mend l old)
  | [], _, _ => rfl
  | x :: l, m, old => mend_append l m _
/-- a stretch mended where something is wrong is the stretch filled -/
theorem mend_opt {s : Sh30.State} {at_ : Nat} {should : List Nat} (hb : Sh30.bytesAt s.blocks at_ should.length = (List.range should.length).map fun j => byteH s.blocks (at_ + j)) (x : Sh30.Find) (h1 : x.at_ = at_) (h2 : x.should = should) {old : Nat → Nat} (ho : ∀ j, at_ ≤ j → j < at_ + should.length → old j = byteH s.blocks j) (j : Nat) :
    mend (if Sh30.wrong s at_ should = [] then [] else [x]) old j = fillB at_ should old j := by
  by_cases c : Sh30.wrong s at_ should = []
  · rw [if_pos c]
    show old j = _
    unfold fillB
    by_cases d : at_ ≤ j ∧ j < at_ + should.length
    · rw [if_pos d, ho j d.1 d.2]
      rw [wrong_eq hb, List.filter_eq_nil_iff] at c
      have := c (j - at_) (List.mem_range.mpr (by omega))
      rw [show at_ + (j - at_) = j by omega] at this
      simpa using this
    · rw [if_neg d]
  · rw [if_neg c]
    show (if x.at_ ≤ j ∧ j < x.at_ + x.should.length then x.should.getD (j - x.at_) 0 else old j) = _
    rw [h1, h2]
    rfl
end GK
end
section
set_option linter.all false
set_option maxRecDepth 100000
namespace GK
theorem guards_lt (a n : Nat) : ∀ z ∈ Sh30.guards a n, z < 256 := fun z hz => by
  unfold Sh30.guards at hz
  obtain ⟨i, _, rfl⟩ := List.mem_map.mp hz
  unfold Sh30.guardByte
  omega
theorem finds_in {g : Nat} {p : MPiece} {x : Sh30.Piece} {s : Sh30.State} (R : PcRel g p x) : ∀ y ∈ Sh30.findsOf s x, InP x y := by
  have ht := R.total
  have hf := R.front
  have he : x.end_ = x.place + x.size := rfl
  intro y hy
  unfold Sh30.findsOf at hy
  rcases List.mem_append.mp hy with hy | hy
  · split at hy
    · cases hy
    · have : y = _ := List.mem_singleton.mp hy
      subst this
      exact ⟨Nat.le_refl _, by show x.block + (Sh30.guards x.block (x.place - x.block)).length ≤ _; rw [guards_length]; omega, guards_lt _ _, by show 1 ≤ 4; decide, by show 4 ≤ 7; decide⟩
  rcases List.mem_append.mp hy with hy | hy
  · split at hy
    · cases hy
    · have : y = _ := List.mem_singleton.mp hy
      subst this
      exact ⟨by show x.block ≤ x.end_; omega, by show x.end_ + (Sh30.guards x.end_ (x.block + x.total - x.end_)).length ≤ _; rw [guards_length]; omega, guards_lt _ _, by show 1 ≤ 5; decide, by show 5 ≤ 7; decide⟩
  · split at hy
    · cases hy
    · dsimp only at hy
      split at hy
      · cases hy
      · have : y = _ := List.mem_singleton.mp hy
        subst this
        refine ⟨hf, by show x.place + (List.replicate x.size Sh30.GONE).length ≤ _; rw [List.length_replicate]; omega, fun z hz => ?_, by show 1 ≤ 6; decide, by show 6 ≤ 7; decide⟩
        rw [List.eq_of_mem_replicate hz]
        decide
end GK
end
section
set_option linter.all false
set_option maxRecDepth 100000
namespace GK
/-- a piece's bytes when it has been looked at -/
def mended (x : Sh30.Piece) (old : Nat → Nat) (j : Nat) : Nat :=
  if (x.block ≤ j ∧ j < x.place) ∨ (x.end_ ≤ j ∧ j < x.block + x.total) then Sh30.guardByte j else if (x.place ≤ j ∧ j < x.end_) ∧ x.lives = false then 221 else old j
def optF (s : Sh30.State) (at_ : Nat) (should : List Nat) (f : List Nat → Sh30.Find) : List Sh30.Find := if Sh30.wrong s at_ should = [] then [] else [f (Sh30.wrong s at_ should)]
def thirdF (s : Sh30.State) (x : Sh30.Piece) : List Sh30.Find := match x.gone with
  | none => []
  | some g => optF s x.place (List.replicate x.size Sh30.GONE) fun c => ⟨6, c.headD 0, c.length, g.1, x.place, List.replicate x.size Sh30.GONE⟩
theorem findsOf_eq (s : Sh30.State) (x : Sh30.Piece) : Sh30.findsOf s x = optF s x.block (Sh30.guards x.block (x.place - x.block)) (fun a => ⟨4, x.place - x.block - a.getLastD 0, a.length, x.who, x.block, Sh30.guards x.block (x.place - x.block)⟩) ++
    (optF s x.end_ (Sh30.guards x.end_ (x.block + x.total - x.end_)) (fun b => ⟨5, b.headD 0 + 1, b.length, x.who, x.end_, Sh30.guards x.end_ (x.block + x.total - x.end_)⟩) ++ thirdF s x) := rfl
theorem mend_optF {s : Sh30.State} {at_ : Nat} {should : List Nat} {f : List Nat → Sh30.Find} {old : Nat → Nat} (hb : Sh30.bytesAt s.blocks at_ should.length = (List.range should.length).map fun j => byteH s.blocks (at_ + j)) (h1 : ∀ a, (f a).at_ = at_) (h2 : ∀ a, (f a).should = should) (ho : ∀ j, at_ ≤ j → j < at_ + should.length → old j = byteH s.blocks j) : mend (optF s at_ should f) old = fillB at_ should old := by
  funext j
  exact mend_opt hb (f (Sh30.wrong s at_ should)) (h1 _) (h2 _) ho j
theorem mend_finds {g : Nat} {p : MPiece} {x : Sh30.Piece} {s : Sh30.State} (R : PcRel g p x) (hr : Reads s x) (j : Nat) : mend (Sh30.findsOf s x) (byteH s.blocks) j = mended x (byteH s.blocks) j := by
  have ht := R.total
  have hf := R.front
  have he : x.end_ = x.place + x.size := rfl
  have q1 : mend (optF s x.block (Sh30.guards x.block (x.place - x.block)) (fun a => ⟨4, x.place - x.block - a.getLastD 0, a.length, x.who, x.block, Sh30.guards x.block (x.place - x.block)⟩)) (byteH s.blocks) = fillB x.block (Sh30.guards x.block (x.place - x.block)) (byteH s.blocks) := by
    refine mend_optF (by rw [guards_length]; exact hr _ _ (Nat.le_refl _) (by omega)) (fun _ => rfl) (fun _ => rfl) (fun j _ _ => rfl)
  have q2 : mend (optF s x.end_ (Sh30.guards x.end_ (x.block + x.total - x.end_)) (fun b => ⟨5, b.headD 0 + 1, b.length, x.who, x.end_, Sh30.guards x.end_ (x.block + x.total - x.end_)⟩)) (fillB x.block (Sh30.guards x.block (x.place - x.block)) (byteH s.blocks)) = fillB x.end_ (Sh30.guards x.end_ (x.block + x.total - x.end_)) (fillB x.block (Sh30.guards x.block (x.place - x.block)) (byteH s.blocks)) := by
    refine mend_optF (by rw [guards_length]; exact hr _ _ (by omega) (by omega)) (fun _ => rfl) (fun _ => rfl) (fun j j1 j2 => by
      unfold fillB
      rw [guards_length, if_neg (by omega)])
  rw [findsOf_eq, mend_append, mend_append, q1, q2]
  have g1 : fillB x.end_ (Sh30.guards x.end_ (x.block + x.total - x.end_)) (fillB x.block (Sh30.guards x.block (x.place - x.block)) (byteH s.blocks)) j = if (x.block ≤ j ∧ j < x.place) ∨ (x.end_ ≤ j ∧ j < x.block + x.total) then Sh30.guardByte j else byteH s.blocks j := by
    unfold fillB
    rw [guards_length, guards_length]
    by_cases c : x.end_ ≤ j ∧ j < x.block + x.total
    · rw [if_pos (by omega), if_pos (.inr c), guards_get _ _ _ (by omega)]
      congr 1
      omega
    · rw [if_neg (by omega)]
      by_cases d : x.block ≤ j ∧ j < x.place
      · rw [if_pos (by omega), if_pos (.inl d), guards_get _ _ _ (by omega)]
        congr 1
        omega
      · rw [if_neg (by omega), if_neg (by omega)]
  unfold mended
  cases hg : x.gone with
  | none =>
    have hl : x.lives = true := by
      unfold Sh30.Piece.lives
      rw [hg]
      rfl
    unfold thirdF
    rw [hg]
    show fillB x.end_ (Sh30.guards x.end_ (x.block + x.total - x.end_)) (fillB x.block (Sh30.guards x.block (x.place - x.block)) (byteH s.blocks)) j = _
    rw [g1, hl]
    simp
  | some w =>
    have hl : x.lives = false := by
      unfold Sh30.Piece.lives
      rw [hg]
      rfl
    unfold thirdF
    rw [hg]
    show mend (optF s x.place (List.replicate x.size Sh30.GONE) fun c => ⟨6, c.headD 0, c.length, w.1, x.place, List.replicate x.size Sh30.GONE⟩) _ j = _
    rw [mend_optF (at_ := x.place) (should := List.replicate x.size Sh30.GONE) (f := fun c => ⟨6, c.headD 0, c.length, w.1, x.place, List.replicate x.size Sh30.GONE⟩) (by rw [List.length_replicate]; exact hr _ _ (by omega) (by omega)) (fun _ => rfl) (fun _ => rfl) (fun j j1 j2 => by
      rw [List.length_replicate] at j2
      unfold fillB
      rw [guards_length, guards_length, if_neg (by omega), if_neg (by omega)]), hl]
    unfold fillB at g1 ⊢
    rw [List.length_replicate]
    by_cases c : x.place ≤ j ∧ j < x.end_
    · rw [if_pos (by omega), if_neg (by omega), if_pos ⟨c, rfl⟩, List.getD_eq_getElem?_getD, List.getElem?_replicate, if_pos (by omega)]
      rfl
    · rw [if_neg (by omega), g1, if_neg (c := _ ∧ _) (fun q => c q.1)]
/-- a piece put right, of the mirror -/
def rightP (p : MPiece) : MPiece := { p with others := p.others.filter fun y => p.isOwn y.1 && !p.held }
theorem look_filter (l : List (Int × Int)) (c : Int → Bool) (k : Int) : look (l.filter fun y => c y.1) k = if c k = true then look l k else none := by
  unfold look
  rw [List.find?_filter]
  by_cases h : c k = true
  · rw [if_pos h]
    congr 2
    funext y
    by_cases e : y.1 = k
    · rw [e, h]
      simp
    · simp [e]
  · rw [if_neg h]
    have : l.find? (fun a => c a.1 && decide (a.1 = k)) = none := List.find?_eq_none.mpr fun y _ q => h (by
      rw [Bool.and_eq_true, decide_eq_true_eq] at q
      rw [← q.2]
      exact q.1)
    rw [show (l.find? fun a => decide (c a.1 = true ∧ decide (a.1 = k) = true)) = l.find? (fun a => c a.1 && decide (a.1 = k)) by
      congr 1
      funext a
      simp]
    rw [this]
    rfl
theorem right_rel {g : Nat} {p : MPiece} {x : Sh30.Piece} (R : PcRel g p x) : PcRel g (rightP p) x := ⟨R.number, R.block, R.place, R.size, R.guard, R.who, R.held, R.giver, R.front, R.total⟩
theorem right_bytes {g : Nat} {p : MPiece} {x : Sh30.Piece} {old : Nat → Nat} (R : PcRel g p x) (B : PcBytes p x old) : PcBytes (rightP p) x (mended x old) := by
  have ht := R.total
  have hf := R.front
  have he : x.end_ = x.place + x.size := rfl
  refine ⟨B.nd.sublist (List.filter_sublist.map _), fun y hy => B.keys y (List.mem_filter.mp hy).1, fun y hy => B.vals y (List.mem_filter.mp hy).1, fun j j1 j2 => ?_⟩
  have hb := B.byte j j1 j2
  show (look (p.others.filter fun y => (fun k => p.isOwn k && !p.held) y.1) (j : Int)).getD (p.usual (j : Int)) = _
  rw [look_filter p.others (fun k => p.isOwn k && !p.held) (j : Int)]
  unfold mended
  by_cases c : (x.block ≤ j ∧ j < x.place) ∨ (x.end_ ≤ j ∧ j < x.block + x.total)
  · have hno : p.isOwn (j : Int) = false := by
      cases e : p.isOwn (j : Int) with
      | false => rfl
      | true =>
        have := (own_iff R j).mp e
        omega
    rw [hno, if_neg (by simp), if_pos c]
    exact usual_guard R (by omega)
  · have ho : p.isOwn (j : Int) = true := (own_iff R j).mpr (by omega)
    rw [ho, if_neg c]
    cases hl : x.lives with
    | true =>
      rw [R.held, hl, if_pos (by rfl), if_neg (by simp)]
      exact hb
    | false =>
      rw [R.held, hl, if_neg (by decide), if_pos ⟨by omega, rfl⟩]
      show p.usual (j : Int) = _
      rw [usual_own R (by omega), hl]
      rfl
end GK
end
section
set_option linter.all false
set_option maxRecDepth 100000
namespace GK
theorem RelH.newKinds {h : MHouse} {s : Sh30.State} {t : Kg46.State} {F : Nat → MPiece} (R : RelH h s t F) {ks : List Int} {fo : List Nat} (hk : Kinds ks fo) : RelH { h with kinds := ks } { s with found := fo } t F :=
  ⟨R.bl, R.rb, R.guard, R.g1, R.g2, R.hold, R.next, R.pcs, R.rel, R.byt, R.num, R.lt, R.dead, R.blk, R.wait, hk, R.size, R.wide, R.many⟩
theorem right_some {g : Nat} {p : MPiece} {x : Sh30.Piece} {old : Nat → Nat} (R : PcRel g p x) (B : PcBytes p x old) : p.putRight = some (rightP p) := by
  have hs := R.size
  refine right_eq p B.nd (fun k _ q => ?_) ?_
  · unfold MPiece.end_ at q
    omega
  · unfold MPiece.end_
    omega
theorem look_sim {A : MAsks} {h : MHouse} {s : Sh30.State} {t : Kg46.State} {F : Nat → MPiece} {x : Sh30.Piece} {f : Sh30.State → Nat → Sh30.Prog Sh30.Ans} (R : RelH h s t F) (hx : x ∈ s.pieces) (hb : (fin o30 A (Sh30.look s x f)).2.2.length ≤ LIM) :
    ∃ A' ks fo t', h.lookAt A (x.number : Int) = some (A', { h with kinds := ks, pieces := put h.pieces (x.number : Int) (rightP (F x.number)) }, ((Sh30.findsOf s x).length : Int)) ∧
      RelH { h with kinds := ks, pieces := put h.pieces (x.number : Int) (rightP (F x.number)) } { s with blocks := some t', found := fo } t' (upF F x.number (rightP (F x.number))) ∧
      fin o30 A (Sh30.look s x f) = fin o30 A' (f { s with blocks := some t', found := fo } (Sh30.findsOf s x).length) := by
  have P := R.rel x hx
  have B := R.byt x hx
  have ht := P.total
  have hf := P.front
  have he : x.end_ = x.place + x.size := rfl
  obtain ⟨A', ks, fo, t', q1, q2, q3, q4, q5, q6, q7, q8⟩ := tellAll_sim (x := x) (place := x.place) (f := fun t => f t (Sh30.findsOf s x).length) (Sh30.findsOf s x) A h s t R.bl R.rb (R.has hx) (finds_in P) R.kinds hb
  have hm : ∀ j, byteH (some t') j = mended x (byteH s.blocks) j := fun j => by
    rw [q7 j, ← R.bl]
    exact mend_finds P (R.reads hx) j
  have hm' : byteH (some t') = mended x (byteH s.blocks) := funext hm
  refine ⟨A', ks, fo, t', ?_, ?_, q8⟩
  · unfold MHouse.lookAt
    rw [R.look hx, Option.bind_some, R.finds hx, P.place, q1, Option.bind_some, right_some P B, Option.bind_some, List.length_map]
  · refine (R.bytes hx q3 q4 q5 (fun j hj => ?_) (right_rel P) (by rw [hm']; exact right_bytes P B)).newKinds q6
    rw [hm j]
    unfold mended
    rw [if_neg (by omega), if_neg (by omega)]
end GK
end
section
set_option linter.all false
set_option maxRecDepth 100000
namespace GK
/-- any block given up -/
theorem giveB_sim {A : MAsks} {B : MBlocks} {t : Kg46.State} {q n : Nat} {run : Option Int} {f : Kg46.State → Kg46.Prog Kg46.Ans} (R : RelB B t) (hx : ((q : Int), (⟨(n : Int), run⟩ : MBlock)) ∈ allB t) (hb : (fin o45 A (Kg46.give t q f)).2.2.length ≤ LIM) :
    ∃ A' B' t', B.give A (q : Int) = some (A', B') ∧ A'.ans = A.ans ∧ RelB B' t' ∧ fin o45 A (Kg46.give t q f) = fin o45 A' (f t') ∧ GaveB t t' ((q : Int), ⟨(n : Int), run⟩) := by
  rcases List.mem_append.mp hx with h | h
  · obtain ⟨r, hr, h⟩ := List.mem_flatMap.mp h
    obtain ⟨u, hu, e⟩ := List.mem_map.mp h
    have e1 : (keyS r u : Int) = (q : Int) := congrArg Prod.fst e
    have e1 : keyS r u = q := by omega
    subst e1
    rw [← e]
    exact giveS_sim R hr hu hb
  · obtain ⟨g, hg, e⟩ := List.mem_map.mp h
    have e1 : ((g.page * 4096 : Nat) : Int) = (q : Int) := congrArg Prod.fst e
    have e1 : g.page * 4096 = q := by omega
    subst e1
    rw [← e]
    exact giveG_sim R hg hb
theorem block_of {t : Kg46.State} {q n : Nat} {run : Option Int} (hx : ((q : Int), (⟨(n : Int), run⟩ : MBlock)) ∈ allB t) : ∃ b, t.block (q : Int) = some b ∧ b.place = q := by
  obtain ⟨b, hb⟩ := hold_of (k := 0) (at_ := q) (n := n) ⟨run, hx⟩ (Nat.le_refl _) (by omega)
  have hm : ∃ b ∈ t.blocks, b.place = q := by
    unfold Kg46.State.blocks
    rcases List.mem_append.mp hx with h | h
    · obtain ⟨r, hr, h⟩ := List.mem_flatMap.mp h
      obtain ⟨u, hu, e⟩ := List.mem_map.mp h
      have e1 : (keyS r u : Int) = (q : Int) := congrArg Prod.fst e
      exact ⟨⟨keyS r u, u.2, sz r⟩, (List.mergeSort_perm _ _).mem_iff.mpr (List.mem_append_left _ (List.mem_flatMap.mpr ⟨r, hr, List.mem_map.mpr ⟨u, hu, rfl⟩⟩)), by show keyS r u = q; omega⟩
    · obtain ⟨g, hg, e⟩ := List.mem_map.mp h
      have e1 : ((g.page * 4096 : Nat) : Int) = (q : Int) := congrArg Prod.fst e
      exact ⟨⟨g.page * Kg46.PAGE, g.size, g.pages * Kg46.PAGE⟩, (List.mergeSort_perm _ _).mem_iff.mpr (List.mem_append_right _ (List.mem_map.mpr ⟨g, hg, rfl⟩)), by show g.page * 4096 = q; omega⟩
  obtain ⟨b, hb, b1⟩ := hm
  have hs : (t.block (q : Int)).isSome = true := by
    unfold Kg46.State.block
    rw [List.find?_isSome]
    exact ⟨b, hb, by rw [b1]; exact beq_self_eq_true _⟩
  obtain ⟨c, hc⟩ := Option.isSome_iff_exists.mp hs
  refine ⟨c, hc, ?_⟩
  have := List.find?_some hc
  have := eq_of_beq this
  omega
theorem fin_lower_len {A : MAsks} {s : Sh30.State} {c : Kg46.Call} {f : Sh30.State → Kg46.Ans → Sh30.Prog Sh30.Ans} (hb : (fin o30 A (Sh30.lower s c f)).2.2.length ≤ LIM) : (fin o45 A (Kg46.spec s.blocks c)).2.2.length ≤ LIM := by
  rw [fin_lower] at hb
  exact Nat.le_trans (fin_len o30 ⟨A.ans, (fin o45 A (Kg46.spec s.blocks c)).2.2⟩ _) hb
/-- a block given up, of the house -/
theorem giveH_sim {A : MAsks} {B : MBlocks} {s : Sh30.State} {t : Kg46.State} {q n : Nat} {run : Option Int} {f : Sh30.State → Sh30.Prog Sh30.Ans} (e : s.blocks = some t) (R : RelB B t) (hx : ((q : Int), (⟨(n : Int), run⟩ : MBlock)) ∈ allB t) (hb : (fin o30 A (Sh30.lower s (.give (q : Nat)) fun u _ => f u)).2.2.length ≤ LIM) :
    ∃ A' B' t', B.give A (q : Int) = some (A', B') ∧ A'.ans = A.ans ∧ RelB B' t' ∧ GaveB t t' ((q : Int), ⟨(n : Int), run⟩) ∧ fin o30 A (Sh30.lower s (.give (q : Nat)) fun u _ => f u) = fin o30 A' (f { s with blocks := some t' }) := by
  have h1 := fin_lower_len hb
  obtain ⟨b, hb1, hb2⟩ := block_of hx
  have es : Kg46.spec s.blocks (.give (q : Nat)) = Kg46.give t q fun t => .done (some t) (Kg46.num b.size) := by
    rw [e]
    show (match t.block (q : Int) with
      | none => _
      | some b => _) = _
    rw [hb1, ← hb2]
  rw [es] at h1
  obtain ⟨A', B', t', g1, g2, g3, g4, g5⟩ := giveB_sim R hx h1
  refine ⟨A', B', t', g1, g2, g3, g5, ?_⟩
  rw [fin_lower, es, g4, fin_done, ← g2]
end GK
end
section
set_option linter.all false
set_option maxRecDepth 100000
namespace GK
abbrev clk (x : Sh30.Piece) : Nat := (x.gone.getD (0, 0)).2
theorem fold_least : ∀ (l : List Sh30.Piece) (m : Option Sh30.Piece), (l ≠ [] ∨ m.isSome = true) → ∃ r, (l.foldl (fun (m : Option Sh30.Piece) (p : Sh30.Piece) => match m with
  | none => some p
  | some q => if (p.gone.getD (0, 0)).2 < (q.gone.getD (0, 0)).2 then some p else m) m) = some r ∧ (r ∈ l ∨ m = some r) ∧ (∀ y ∈ l, clk r ≤ clk y) ∧ ∀ q, m = some q → clk r ≤ clk q
  | [], m, h => by
    obtain ⟨r, rfl⟩ := Option.isSome_iff_exists.mp (h.elim (fun q => absurd rfl q) id)
    exact ⟨r, rfl, .inr rfl, ⟨fun y hy => (List.not_mem_nil hy).elim, fun q e => by cases e; exact Nat.le_refl _⟩⟩
  | x :: l, none, _ => by
    obtain ⟨r, h1, h2, h3, h4⟩ := fold_least l (some x) (.inr rfl)
    refine ⟨r, h1, .inl (h2.elim (fun q => List.mem_cons_of_mem _ q) fun e => by cases e; exact List.mem_cons_self), fun y hy => ?_, fun q e => by cases e⟩
    rcases List.mem_cons.mp hy with rfl | hy
    · exact h4 _ rfl
    · exact h3 y hy
  | x :: l, some q, _ => by
    rw [List.foldl_cons]
    show ∃ r, List.foldl _ (if (x.gone.getD (0, 0)).2 < (q.gone.getD (0, 0)).2 then some x else some q) l = some r ∧ _
    by_cases c : (x.gone.getD (0, 0)).2 < (q.gone.getD (0, 0)).2
    · rw [if_pos c]
      obtain ⟨r, h1, h2, h3, h4⟩ := fold_least l (some x) (.inr rfl)
      have h5 := h4 _ rfl
      refine ⟨r, h1, .inl (h2.elim (fun q => List.mem_cons_of_mem _ q) fun e => by cases e; exact List.mem_cons_self), fun y hy => ?_, fun q' e => by cases e; exact Nat.le_trans h5 (Nat.le_of_lt c)⟩
      rcases List.mem_cons.mp hy with rfl | hy
      · exact h5
      · exact h3 y hy
    · rw [if_neg c]
      obtain ⟨r, h1, h2, h3, h4⟩ := fold_least l (some q) (.inr rfl)
      have h5 := h4 _ rfl
      refine ⟨r, h1, h2.elim (fun q => .inl (List.mem_cons_of_mem _ q)) .inr, fun y hy => ?_, fun q' e => by cases e; exact h5⟩
      rcases List.mem_cons.mp hy with rfl | hy
      · exact Nat.le_trans h5 (Nat.le_of_not_lt c)
      · exact h3 y hy
theorem oldest_eq {s : Sh30.State} {a : Sh30.Piece} {w : List Sh30.Piece} (hp : (a :: w).Perm s.held) (hs : ((a :: w).map clk).Pairwise (· < ·)) : s.oldest = some a := by
  have ha : a ∈ s.held := hp.mem_iff.mp List.mem_cons_self
  obtain ⟨r, h1, h2, h3, _⟩ := fold_least s.held none (.inl (List.ne_nil_of_mem ha))
  have hr : r ∈ s.held := h2.elim id fun e => by cases e
  have h4 := h3 a ha
  rw [List.map_cons, List.pairwise_cons] at hs
  show List.foldl _ none s.held = _
  refine h1.trans ?_
  rcases List.mem_cons.mp (hp.mem_iff.mpr hr) with e | e
  · rw [e]
  · have := hs.1 _ (List.mem_map.mpr ⟨r, e, rfl⟩)
    omega
theorem oldest_none {s : Sh30.State} (h : s.held = []) : s.oldest = none := by
  unfold Sh30.State.oldest
  rw [h]
  rfl
theorem tell_wait (A : MAsks) (h : MHouse) (w : List Int) (k p a b o : Int) : MHouse.tell A { h with waiting := w } k p a b o = (h.tell A k p a b o).map fun x => (x.1, { x.2 with waiting := w }) := by
  unfold MHouse.tell
  show (h.kinds[k.toNat]?).bind _ = ((h.kinds[k.toNat]?).bind _).map _
  cases h.kinds[k.toNat]? with
  | none => rfl
  | some n =>
    rw [Option.bind_some, Option.bind_some]
    by_cases c : 0 ≤ k
    · rw [if_pos c, if_pos c]
      cases A.tell k p a b o <;> rfl
    · rw [if_neg c, if_neg c]
      rfl
theorem tellL_wait (place : Int) (w : List Int) : ∀ (l : List (Int × Int × Int × Int)) (A : MAsks) (h : MHouse), tellL place A { h with waiting := w } l = (tellL place A h l).map fun x => (x.1, { x.2 with waiting := w })
  | [], A, h => rfl
  | x :: l, A, h => by
    show (MHouse.tell A { h with waiting := w } x.1 place x.2.1 x.2.2.1 x.2.2.2).bind _ = ((h.tell A x.1 place x.2.1 x.2.2.1 x.2.2.2).bind _).map _
    rw [tell_wait]
    cases h.tell A x.1 place x.2.1 x.2.2.1 x.2.2.2 with
    | none => rfl
    | some y => exact tellL_wait place w l y.1 y.2
theorem lookAt_wait (A : MAsks) (h : MHouse) (w : List Int) (n : Int) : MHouse.lookAt A { h with waiting := w } n = (h.lookAt A n).map fun x => (x.1, { x.2.1 with waiting := w }, x.2.2) := by
  unfold MHouse.lookAt
  show (look h.pieces n).bind _ = ((look h.pieces n).bind _).map _
  cases look h.pieces n with
  | none => rfl
  | some p =>
    rw [Option.bind_some, Option.bind_some, tellL_wait]
    cases tellL p.place A h p.findings with
    | none => rfl
    | some x =>
      rw [Option.map_some, Option.bind_some, Option.bind_some]
      cases p.putRight <;> rfl
theorem del_put {β : Type} (l : List (Int × β)) {k : Int} {v v' : β} (h : look l k = some v) : del (put l k v') k = del l k := by
  rw [put_map h]
  unfold del
  rw [List.filter_map]
  have : l.filter ((fun p => decide (p.1 ≠ k)) ∘ fun p => if p.1 = k then (p.1, v') else p) = l.filter fun p => decide (p.1 ≠ k) := List.filter_congr fun y _ => by
    show decide ((if y.1 = k then (y.1, v') else y).1 ≠ k) = _
    by_cases c : y.1 = k
    · rw [if_pos c]
    · rw [if_neg c]
  rw [this]
  rw [show (l.filter fun p => decide (p.1 ≠ k)) = (l.filter fun p => decide (p.1 ≠ k)).map id by rw [List.map_id]]
  rw [List.map_map]
  refine List.map_congr_left fun y hy => ?_
  have := of_decide_eq_true (List.mem_filter.mp hy).2
  show (if y.1 = k then (y.1, v') else y) = y
  rw [if_neg this]
end GK
end
section
set_option linter.all false
set_option maxRecDepth 100000
namespace GK
theorem perm_filter {α : Type} {f : α → Nat} : ∀ {l : List α}, (l.map f).Nodup → ∀ {a : α}, a ∈ l → l.Perm (a :: l.filter fun x => f x != f a)
  | [], _, _, h => by cases h
  | y :: l, hn, a, h => by
    rw [List.map_cons, List.nodup_cons] at hn
    rcases List.mem_cons.mp h with rfl | h
    · rw [List.filter_cons, if_neg (by simp)]
      refine List.Perm.cons _ (List.Perm.of_eq (List.filter_eq_self.mpr fun x hx => ?_).symm)
      rw [bne_iff_ne]
      intro e
      exact hn.1 (by rw [← e]; exact List.mem_map.mpr ⟨x, hx, rfl⟩)
    · have hne : f y ≠ f a := fun e => hn.1 (by rw [e]; exact List.mem_map.mpr ⟨a, h, rfl⟩)
      rw [List.filter_cons, if_pos (by rw [bne_iff_ne]; exact hne)]
      exact ((perm_filter hn.2 h).cons y).trans (List.Perm.swap a y _)
/-- what was found by its number is found still -/
def Keeps (h h' : MHouse) : Prop := ∀ n p, h.find n = some p → ∃ p', h'.find n = some p' ∧ p'.size = p.size ∧ p'.place = p.place
theorem Keeps.refl (h : MHouse) : Keeps h h := fun n p e => ⟨p, e, rfl, rfl⟩
theorem Keeps.trans {a b c : MHouse} (h1 : Keeps a b) (h2 : Keeps b c) : Keeps a c := fun n p e => by
  obtain ⟨p', e', x, y⟩ := h1 n p e
  obtain ⟨p'', e'', x', y'⟩ := h2 n p' e'
  exact ⟨p'', e'', x'.trans x, y'.trans y⟩
theorem RelH.dead_none {h : MHouse} {s : Sh30.State} {t : Kg46.State} {F : Nat → MPiece} (R : RelH h s t F) {x : Sh30.Piece} (hx : x ∈ s.pieces) : GK.look h.dead (x.number : Int) = none := by
  refine key_none_look fun q => ?_
  obtain ⟨d, hd, e⟩ := List.mem_map.mp q
  exact (R.dead d hd).2 x hx e
theorem RelH.held_nums {h : MHouse} {s : Sh30.State} {t : Kg46.State} {F : Nat → MPiece} (R : RelH h s t F) : (s.held.map Sh30.Piece.number).Nodup := R.nums.sublist (List.filter_sublist.map _)
theorem letGo_sim {A : MAsks} {h : MHouse} {s : Sh30.State} {t : Kg46.State} {F : Nat → MPiece} {a : Sh30.Piece} {w : List Sh30.Piece} {f : Sh30.State → Sh30.Prog Sh30.Ans} (R : RelH h s t F) (hw : h.waiting = (a :: w).map fun x => (x.number : Int)) (hp : (a :: w).Perm s.held) (hs : ((a :: w).map clk).Pairwise (· < ·)) (hc : ∀ x ∈ a :: w, clk x < s.clock)
    (hb : (fin o30 A (Sh30.letGo s a f)).2.2.length ≤ LIM) :
    ∃ A' h' s' t' F', h.letGo A = some (A', h') ∧ RelH h' s' t' F' ∧ w.Perm s'.held ∧ s'.hold = s.hold ∧ Keeps h h' ∧ fin o30 A (Sh30.letGo s a f) = fin o30 A' (f s') := by
  have ha : a ∈ s.pieces := (List.mem_filter.mp (hp.mem_iff.mp List.mem_cons_self)).1
  obtain ⟨A1, ks, fo, t1, q1, R1, q3⟩ := look_sim (f := fun t _ => Sh30.lower (t.without a) (.give (a.block : Nat)) fun u _ => f u) R ha hb
  have hb2 : (fin o30 A1 (Sh30.lower (({ s with blocks := some t1, found := fo } : Sh30.State).without a) (.give (a.block : Nat)) fun u _ => f u)).2.2.length ≤ LIM := by
    rw [← q3]
    exact hb
  obtain ⟨run, hx⟩ := R1.has ha
  obtain ⟨A2, B2, t2, g1, g2, g3, g4, g5⟩ := giveH_sim (s := ({ s with blocks := some t1, found := fo } : Sh30.State).without a) rfl R1.rb hx hb2
  have P := R.rel a ha
  have hl : look (put h.pieces (a.number : Int) (rightP (F a.number))) (a.number : Int) = some (rightP (F a.number)) := by
    rw [look_put (R.look ha), if_pos rfl]
  have hperm := perm_filter (f := Sh30.Piece.number) R.nums ha
  have hblk : ((allB t2).map fun b => (b.1, b.2.size)).Perm ((s.pieces.filter fun x => x.number != a.number).map fun x => ((x.block : Int), (x.total : Int))) := by
    have h1 := g4.all.map fun b : Int × MBlock => (b.1, b.2.size)
    have h2 := hperm.map fun x => ((x.block : Int), (x.total : Int))
    exact List.Perm.cons_inv (h1.symm.trans (R1.blk.trans h2))
  refine ⟨A2, { h with waiting := w.map fun x => (x.number : Int), kinds := ks, pieces := del (put h.pieces (a.number : Int) (rightP (F a.number))) (a.number : Int), dead := h.dead ++ [((a.number : Int), rightP (F a.number))], bl := B2 },
    { ({ s with blocks := some t1, found := fo } : Sh30.State).without a with blocks := some t2 }, t2, upF F a.number (rightP (F a.number)), ?_, ?_, ?_, rfl, ?_, ?_⟩
  · unfold MHouse.letGo
    rw [hw]
    show ((MHouse.lookAt A { h with waiting := w.map fun x => (x.number : Int) } (a.number : Int)).bind _) = _
    rw [lookAt_wait, q1, Option.map_some, Option.bind_some]
    show (look (put h.pieces (a.number : Int) (rightP (F a.number))) (a.number : Int)).bind _ = _
    rw [hl, Option.bind_some]
    show (if (F a.number).number = (a.number : Int) ∧ (look h.dead (a.number : Int)).isSome = false then (h.bl.give A1 (F a.number).block).bind _ else none) = _
    rw [if_pos ⟨P.number, by rw [R.dead_none ha]; rfl⟩, P.block, g1, Option.bind_some]
  · refine ⟨rfl, g3, R.guard, R.g1, R.g2, R.hold, R.next, ?_, fun y hy => R1.rel y (List.mem_filter.mp hy).1, fun y hy => ?_, R.num.sublist (List.filter_sublist.map _), fun y hy => R.lt y (List.mem_filter.mp hy).1, fun d hd => ?_, hblk, ?_, R1.kinds, fun y hy => R.size y (List.mem_filter.mp hy).1, fun y hy => R.wide y (List.mem_filter.mp hy).1, Nat.le_trans (List.length_filter_le _ _) R.many⟩
    · have e := R1.pcs
      have e : put h.pieces (a.number : Int) (rightP (F a.number)) = s.pieces.map fun x => ((x.number : Int), upF F a.number (rightP (F a.number)) x.number) := e
      show del (put h.pieces (a.number : Int) (rightP (F a.number))) (a.number : Int) = (s.pieces.filter fun x => x.number != a.number).map _
      rw [e]
      unfold del
      rw [List.filter_map]
      refine congrArg _ (List.filter_congr fun y _ => ?_)
      show decide ((y.number : Int) ≠ (a.number : Int)) = (y.number != a.number)
      rw [Bool.eq_iff_iff]
      simp
      omega
    · have hB := R1.byt y (List.mem_filter.mp hy).1
      refine ⟨hB.nd, hB.keys, hB.vals, fun j j1 j2 => ?_⟩
      rw [hB.byte j j1 j2]
      have hm := hblk.mem_iff.mpr (List.mem_map.mpr ⟨y, hy, rfl⟩)
      obtain ⟨b, hb, e⟩ := List.mem_map.mp hm
      have e1 : b.1 = (y.block : Int) := congrArg Prod.fst e
      have e2 : b.2.size = (y.total : Int) := congrArg Prod.snd e
      obtain ⟨z, hz, z1, z2⟩ := inT_of g3 (q := y.block) (n := y.total) (run := b.2.run) (by rw [← e1, ← e2]; exact hb)
      have := g4.bytes j ⟨z, hz, by omega, by omega⟩
      show ((byteH (some t1) j : Nat) : Int) = ((byte46 t2 j : Nat) : Int)
      rw [this]
      rfl
    · rcases List.mem_append.mp hd with hd | hd
      · have := R.dead d hd
        exact ⟨this.1, fun x hx => this.2 x (List.mem_filter.mp hx).1⟩
      · have e : d = _ := List.mem_singleton.mp hd
        subst e
        have hlt := R.lt a ha
        refine ⟨by show (a.number : Int) < (s.next : Int); omega, fun x hx => ?_⟩
        have := (List.mem_filter.mp hx).2
        rw [bne_iff_ne] at this
        show (a.number : Int) ≠ (x.number : Int)
        omega
    · refine ⟨w, rfl, ?_, ?_, fun x hx => hc x (List.mem_cons_of_mem _ hx)⟩
      · have h1 := hp.trans (perm_filter (f := Sh30.Piece.number) R.held_nums (hp.mem_iff.mp List.mem_cons_self))
        refine (List.Perm.cons_inv h1).trans (List.Perm.of_eq ?_)
        show (s.pieces.filter fun p => !p.lives).filter (fun x => x.number != a.number) = (s.pieces.filter fun x => x.number != a.number).filter fun p => !p.lives
        rw [List.filter_filter, List.filter_filter]
        exact List.filter_congr fun y _ => Bool.and_comm _ _
      · rw [List.map_cons, List.pairwise_cons] at hs
        exact hs.2
  · have h1 := hp.trans (perm_filter (f := Sh30.Piece.number) R.held_nums (hp.mem_iff.mp List.mem_cons_self))
    refine (List.Perm.cons_inv h1).trans (List.Perm.of_eq ?_)
    show (s.pieces.filter fun p => !p.lives).filter (fun x => x.number != a.number) = (s.pieces.filter fun x => x.number != a.number).filter fun p => !p.lives
    rw [List.filter_filter, List.filter_filter]
    exact List.filter_congr fun y _ => Bool.and_comm _ _
  · intro n p hn
    unfold MHouse.find at hn ⊢
    rw [look_append] at hn
    show ∃ p', look (del (put h.pieces (a.number : Int) (rightP (F a.number))) (a.number : Int) ++ (h.dead ++ [((a.number : Int), rightP (F a.number))])) n = some p' ∧ _
    rw [look_append, look_append, look_del]
    by_cases c : n = (a.number : Int)
    · subst c
      rw [if_pos rfl, R.dead_none ha, look_cons_eq _ _ rfl]
      rw [R.look ha] at hn
      cases hn
      exact ⟨_, rfl, rfl, rfl⟩
    · rw [if_neg c, look_put (R.look ha), if_neg c]
      refine ⟨p, ?_, rfl, rfl⟩
      cases e : look h.pieces n with
      | some v =>
        rw [e] at hn
        exact hn
      | none =>
        rw [e] at hn
        have hn : look h.dead n = some p := hn
        rw [hn]
        rfl
  · exact q3.trans g5
end GK
end
section
set_option linter.all false
set_option maxRecDepth 100000
namespace GK
theorem sizes_some {h : MHouse} {s : Sh30.State} {t : Kg46.State} {F : Nat → MPiece} (R : RelH h s t F) : ∀ (w : List Sh30.Piece), (∀ x ∈ w, ∃ y ∈ s.pieces, y.number = x.number ∧ y.size = x.size) → sizesOf h.pieces (w.map fun x => (x.number : Int)) = some (w.map fun x => (x.size : Int))
  | [], _ => rfl
  | x :: w, hw => by
    obtain ⟨y, hy, e1, e2⟩ := hw x List.mem_cons_self
    have ih := sizes_some R w fun z hz => hw z (List.mem_cons_of_mem _ hz)
    rw [List.map_cons, List.map_cons]
    unfold sizesOf
    rw [← e1, R.look hy, Option.bind_some, ih, Option.map_some, (R.rel y hy).size, e2]
theorem sizes_perm {a b : List Sh30.Piece} (h : a.Perm b) : Sh30.sizes a = Sh30.sizes b := sum_perm (h.map fun p => p.size)
theorem sizes_sum (w : List Sh30.Piece) : (w.map fun x => (x.size : Int)).sum = (Sh30.sizes w : Int) := by
  have := sum_cast (w.map fun p => p.size)
  rw [List.map_map] at this
  exact this
theorem heldSizes_eq {h : MHouse} {s : Sh30.State} {t : Kg46.State} {F : Nat → MPiece} (R : RelH h s t F) : h.heldSizes = some (Sh30.sizes s.held : Int) := by
  obtain ⟨w, e, hp, _, _⟩ := R.wait
  unfold MHouse.heldSizes
  rw [e, sizes_some R w fun x hx => ⟨x, (List.mem_filter.mp (hp.mem_iff.mp hx)).1, rfl, rfl⟩, Option.map_some, sizes_sum, sizes_perm hp]
theorem letMany_sim {f : Sh30.State → Sh30.Prog Sh30.Ans} : ∀ (n : Nat) (A : MAsks) (h : MHouse) (s : Sh30.State) (t : Kg46.State) (F : Nat → MPiece) (m : Nat), RelH h s t F → s.held.length ≤ n → m = s.hold → (fin o30 A (Sh30.letMany (some m) (n + 1) s f)).2.2.length ≤ LIM →
    ∃ A' h' s' t' F', letL n A h = some (A', h') ∧ RelH h' s' t' F' ∧ Keeps h h' ∧ fin o30 A (Sh30.letMany (some m) (n + 1) s f) = fin o30 A' (f s')
  | 0, A, h, s, t, F, m, R, hn, hm, hb => by
    have h0 : s.held = [] := List.length_eq_zero_iff.mp (by omega)
    have eq : Sh30.letMany (some m) (0 + 1) s f = f s := by
      unfold Sh30.letMany
      rw [oldest_none h0]
    unfold letL
    rw [heldSizes_eq R, Option.bind_some, R.hold, eq, if_neg (by rw [h0]; show ¬ (s.hold : Int) < ((0 : Nat) : Int); omega)]
    exact ⟨A, h, s, t, F, rfl, R, Keeps.refl h, rfl⟩
  | n + 1, A, h, s, t, F, m, R, hn, hm, hb => by
    obtain ⟨w, e, hp, hs, hc⟩ := R.wait
    have hz := heldSizes_eq R
    unfold letL
    rw [hz, Option.bind_some, R.hold]
    cases w with
    | nil =>
      have h0 : s.held = [] := hp.symm.eq_nil
      have eq : Sh30.letMany (some m) (n + 1 + 1) s f = f s := by
        unfold Sh30.letMany
        rw [oldest_none h0]
      rw [eq, if_neg (by rw [h0]; show ¬ (s.hold : Int) < ((0 : Nat) : Int); omega)]
      exact ⟨A, h, s, t, F, rfl, R, Keeps.refl h, rfl⟩
    | cons a w =>
      have ho := oldest_eq hp hs
      by_cases c : Sh30.sizes s.held ≤ m
      · have eq : Sh30.letMany (some m) (n + 1 + 1) s f = f s := by
          unfold Sh30.letMany
          rw [ho]
          show (if (decide (Sh30.sizes s.held ≤ m)) = true then f s else _) = f s
          rw [if_pos (decide_eq_true c)]
        rw [eq, if_neg (by omega)]
        exact ⟨A, h, s, t, F, rfl, R, Keeps.refl h, rfl⟩
      · have eq : Sh30.letMany (some m) (n + 1 + 1) s f = Sh30.letGo s a fun t => Sh30.letMany (some m) (n + 1) t f := by
          rw [Sh30.letMany]
          rw [ho]
          show (if (decide (Sh30.sizes s.held ≤ m)) = true then f s else _) = _
          rw [if_neg (by simpa using c)]
        rw [eq] at hb ⊢
        obtain ⟨A1, h1, s1, t1, F1, q1, R1, q2, q3, q4, q5⟩ := letGo_sim R e hp hs hc hb
        rw [if_pos (by omega), q1, Option.bind_some, q5]
        rw [q5] at hb
        have l1 := hp.length_eq
        have l2 := q2.length_eq
        rw [List.length_cons] at l1
        obtain ⟨A2, h2, s2, t2, F2, r1, R2, r2, r3⟩ := letMany_sim n A1 h1 s1 t1 F1 m R1 (by omega) (by rw [q3, hm]) hb
        exact ⟨A2, h2, s2, t2, F2, r1, R2, q4.trans r2, r3⟩
theorem letAll_sim {f : Sh30.State → Sh30.Prog Sh30.Ans} : ∀ (n : Nat) (A : MAsks) (h : MHouse) (s : Sh30.State) (t : Kg46.State) (F : Nat → MPiece), RelH h s t F → s.held.length = n → (fin o30 A (Sh30.letMany none (n + 1) s f)).2.2.length ≤ LIM →
    ∃ A' h' s' t' F', letN n A h = some (A', h') ∧ RelH h' s' t' F' ∧ fin o30 A (Sh30.letMany none (n + 1) s f) = fin o30 A' (f s')
  | 0, A, h, s, t, F, R, hn, hb => by
    have eq : Sh30.letMany none (0 + 1) s f = f s := by
      unfold Sh30.letMany
      rw [oldest_none (List.length_eq_zero_iff.mp hn)]
    rw [eq]
    exact ⟨A, h, s, t, F, rfl, R, rfl⟩
  | n + 1, A, h, s, t, F, R, hn, hb => by
    obtain ⟨w, e, hp, hs, hc⟩ := R.wait
    cases w with
    | nil =>
      have := hp.length_eq
      rw [hn] at this
      cases this
    | cons a w =>
      have ho := oldest_eq hp hs
      have eq : Sh30.letMany none (n + 1 + 1) s f = Sh30.letGo s a fun t => Sh30.letMany none (n + 1) t f := by
        rw [Sh30.letMany]
        rw [ho]
        show (if false = true then f s else _) = _
        rw [if_neg (by decide)]
      rw [eq] at hb ⊢
      obtain ⟨A1, h1, s1, t1, F1, q1, R1, q2, q3, q4, q5⟩ := letGo_sim R e hp hs hc hb
      rw [q5] at hb ⊢
      have l1 := hp.length_eq
      have l2 := q2.length_eq
      rw [List.length_cons] at l1
      obtain ⟨A2, h2, s2, t2, F2, r1, R2, r2⟩ := letAll_sim n A1 h1 s1 t1 F1 R1 (by omega) hb
      refine ⟨A2, h2, s2, t2, F2, ?_, R2, r2⟩
      unfold letN
      rw [q1]
      exact r1
theorem wait_len {h : MHouse} {s : Sh30.State} {t : Kg46.State} {F : Nat → MPiece} (R : RelH h s t F) : h.waiting.length = s.held.length := by
  obtain ⟨w, e, hp, _, _⟩ := R.wait
  rw [e, List.length_map, hp.length_eq]
end GK
end
section
set_option linter.all false
set_option maxRecDepth 100000
namespace GK
/-- a piece given up -/
def goneP (x : Sh30.Piece) (who c : Nat) : Sh30.Piece := { x with gone := some (who, c) }
theorem hold_rel {g : Nat} {p : MPiece} {x : Sh30.Piece} (R : PcRel g p x) (who c : Nat) : PcRel g (p.hold (who : Int)) (goneP x who c) := ⟨R.number, R.block, R.place, R.size, R.guard, R.who, rfl, rfl, R.front, R.total⟩
theorem hold_bytes {g : Nat} {p : MPiece} {x : Sh30.Piece} {old new : Nat → Nat} (R : PcRel g p x) (B : PcBytes p x old) (who c : Nat) (hn : ∀ j, new j = if x.place ≤ j ∧ j < x.end_ then 221 else old j) : PcBytes (p.hold (who : Int)) (goneP x who c) new := by
  have ho : ∀ y ∈ p.others.filter (fun x => !p.isOwn x.1), p.isOwn y.1 = false := fun y hy => by simpa using (List.mem_filter.mp hy).2
  have hu : ∀ k, p.isOwn k = false → (p.hold (who : Int)).usual k = p.usual k := fun k hk => by
    unfold MPiece.usual
    rw [show (p.hold (who : Int)).isOwn k = p.isOwn k from rfl, hk]
    rfl
  refine ⟨B.nd.sublist (List.filter_sublist.map _), fun y hy => B.keys y (List.mem_filter.mp hy).1, fun y hy => ?_, fun j j1 j2 => ?_⟩
  · rw [hu y.1 (ho y hy)]
    exact B.vals y (List.mem_filter.mp hy).1
  · have hb := B.byte j j1 j2
    show (look (p.others.filter fun y => (fun k => !p.isOwn k) y.1) (j : Int)).getD ((p.hold (who : Int)).usual (j : Int)) = _
    rw [look_filter p.others (fun k => !p.isOwn k) (j : Int), hn j]
    by_cases c : x.place ≤ j ∧ j < x.end_
    · have hi := (own_iff R j).mpr c
      rw [hi, if_neg (by decide), if_pos c]
      show (p.hold (who : Int)).usual (j : Int) = _
      unfold MPiece.usual
      rw [show (p.hold (who : Int)).isOwn (j : Int) = p.isOwn (j : Int) from rfl, hi]
      rfl
    · have hi : p.isOwn (j : Int) = false := by
        cases e : p.isOwn (j : Int) with
        | false => rfl
        | true => exact absurd ((own_iff R j).mp e) c
      rw [hi, if_pos (by rfl), if_neg c, hu _ hi]
      exact hb
theorem with_mem {l : List Sh30.Piece} {x' y' : Sh30.Piece} (h : y' ∈ l.map fun y => if y.number = x'.number then x' else y) : ∃ y ∈ l, (y.number = x'.number ∧ y' = x') ∨ (y.number ≠ x'.number ∧ y' = y) := by
  obtain ⟨y, hy, e⟩ := List.mem_map.mp h
  refine ⟨y, hy, ?_⟩
  by_cases c : y.number = x'.number
  · rw [if_pos c] at e
    exact .inl ⟨c, e.symm⟩
  · rw [if_neg c] at e
    exact .inr ⟨c, e.symm⟩
theorem with_map {β : Type} {l : List Sh30.Piece} {x x' : Sh30.Piece} (hn : (l.map Sh30.Piece.number).Nodup) (hx : x ∈ l) (e : x'.number = x.number) (f : Sh30.Piece → β) (hf : f x' = f x) : (l.map fun y => if y.number = x'.number then x' else y).map f = l.map f := by
  rw [List.map_map]
  refine List.map_congr_left fun y hy => ?_
  show f (if y.number = x'.number then x' else y) = f y
  by_cases c : y.number = x'.number
  · rw [if_pos c, hf, nodup_eq hn hy hx (by rw [c, e])]
  · rw [if_neg c]
theorem RelH.holds {h : MHouse} {s : Sh30.State} {t : Kg46.State} {F : Nat → MPiece} (R : RelH h s t F) {x : Sh30.Piece} (hx : x ∈ s.pieces) (hl : x.lives = true) (who : Nat) :
    ∃ t', RelH { h with pieces := put h.pieces (x.number : Int) ((F x.number).hold (who : Int)), waiting := h.waiting ++ [(x.number : Int)] } (Sh30.filled { s.with_ { x with gone := some (who, s.clock) } with clock := s.clock + 1 } x.place (List.replicate x.size Sh30.GONE)) t' (upF F x.number ((F x.number).hold (who : Int))) := by
  have P := R.rel x hx
  have ht := P.total
  have hf := P.front
  have he : x.end_ = x.place + x.size := rfl
  obtain ⟨t', e, Rb, e1, e2, hp⟩ := R.fill hx (at_ := x.place) (b := List.replicate x.size Sh30.GONE) hf (by rw [List.length_replicate]; omega) fun y hy => by
    rw [List.eq_of_mem_replicate hy]
    decide
  have e : Sh30.putAt s.blocks x.place (List.replicate x.size Sh30.GONE) = some t' := congrArg Sh30.State.blocks e
  have hby : ∀ j, byteH (some t') j = if x.place ≤ j ∧ j < x.end_ then 221 else byteH s.blocks j := fun j => by
    have := hp j
    rw [List.length_replicate] at this
    rw [this]
    by_cases c : x.place ≤ j ∧ j < x.end_
    · rw [if_pos (by omega), if_pos c, List.getD_eq_getElem?_getD, List.getElem?_replicate, if_pos (by omega)]
      rfl
    · rw [if_neg (by omega), if_neg c]
  have es : Sh30.filled { s.with_ { x with gone := some (who, s.clock) } with clock := s.clock + 1 } x.place (List.replicate x.size Sh30.GONE) = { s with blocks := some t', pieces := s.pieces.map fun y => if y.number = (goneP x who s.clock).number then goneP x who s.clock else y, clock := s.clock + 1 } := by
    unfold Sh30.filled
    show ({ s with blocks := Sh30.putAt s.blocks x.place (List.replicate x.size Sh30.GONE), pieces := _, clock := s.clock + 1 } : Sh30.State) = _
    rw [e]
    rfl
  rw [es]
  have hpieces : put h.pieces (x.number : Int) ((F x.number).hold (who : Int)) = s.pieces.map fun y => ((y.number : Int), upF F x.number ((F x.number).hold (who : Int)) y.number) := by
    rw [put_map (R.look hx), R.pcs, List.map_map]
    refine List.map_congr_left fun y hy => ?_
    show (if (y.number : Int) = (x.number : Int) then ((y.number : Int), (F x.number).hold (who : Int)) else ((y.number : Int), F y.number)) = ((y.number : Int), upF F x.number ((F x.number).hold (who : Int)) y.number)
    unfold upF
    by_cases c : y.number = x.number
    · rw [if_pos (by omega), if_pos c]
    · rw [if_neg (by omega), if_neg c]
  refine ⟨t', rfl, Rb, R.guard, R.g1, R.g2, R.hold, R.next, ?_, fun y' hy' => ?_, fun y' hy' => ?_, ?_, fun y' hy' => ?_, fun d hd => ?_, ?_, ?_, R.kinds, fun y' hy' => ?_, fun y' hy' => ?_, ?_⟩
  · show put h.pieces (x.number : Int) ((F x.number).hold (who : Int)) = _
    rw [hpieces]
    exact (with_map (x' := goneP x who s.clock) R.nums hx rfl (fun y => ((y.number : Int), upF F x.number ((F x.number).hold (who : Int)) y.number)) rfl).symm
  · obtain ⟨y, hy, ⟨c, e⟩ | ⟨c, e⟩⟩ := with_mem hy'
    · rw [e]
      unfold upF
      rw [if_pos (show (goneP x who s.clock).number = x.number from rfl)]
      exact hold_rel P who s.clock
    · rw [e]
      unfold upF
      rw [if_neg (show ¬ y.number = x.number from c)]
      exact R.rel y hy
  · obtain ⟨y, hy, ⟨c, e⟩ | ⟨c, e⟩⟩ := with_mem hy'
    · rw [e]
      unfold upF
      rw [if_pos (show (goneP x who s.clock).number = x.number from rfl)]
      exact hold_bytes P (R.byt x hx) who s.clock hby
    · rw [e]
      unfold upF
      rw [if_neg (show ¬ y.number = x.number from c)]
      have hB := R.byt y hy
      refine ⟨hB.nd, hB.keys, hB.vals, fun j j1 j2 => ?_⟩
      rw [hB.byte j j1 j2]
      show _ = ((byteH (some t') j : Nat) : Int)
      rw [hby j, if_neg fun q => c (by
        rw [R.apart hy hx j1 j2 (by omega) (by omega)]
        rfl)]
  · show ((s.pieces.map _).map Sh30.Piece.number).Pairwise (· < ·)
    rw [with_map (x' := goneP x who s.clock) R.nums hx rfl Sh30.Piece.number rfl]
    exact R.num
  · obtain ⟨y, hy, ⟨c, e⟩ | ⟨c, e⟩⟩ := with_mem hy'
    · rw [e]
      exact R.lt x hx
    · rw [e]
      exact R.lt y hy
  · refine ⟨(R.dead d hd).1, fun y' hy' => ?_⟩
    obtain ⟨y, hy, ⟨c, e⟩ | ⟨c, e⟩⟩ := with_mem hy'
    · rw [e]
      exact (R.dead d hd).2 x hx
    · rw [e]
      exact (R.dead d hd).2 y hy
  · have : allB t' = allB t := by
      unfold allB
      rw [e1, e2]
    rw [this]
    show List.Perm _ ((s.pieces.map _).map fun (x : Sh30.Piece) => ((x.block : Int), (x.total : Int)))
    rw [with_map (x' := goneP x who s.clock) R.nums hx rfl (fun (x : Sh30.Piece) => ((x.block : Int), (x.total : Int))) rfl]
    exact R.blk
  · obtain ⟨w, we, wp, ws, wc⟩ := R.wait
    refine ⟨w ++ [goneP x who s.clock], ?_, ?_, ?_, fun y hy => ?_⟩
    · show h.waiting ++ [(x.number : Int)] = _
      rw [we, List.map_append]
      rfl
    · have hpm := perm_filter (f := Sh30.Piece.number) R.nums hx
      have h1 : s.held.Perm ((s.pieces.filter fun y => y.number != x.number).filter fun p => !p.lives) := by
        have := hpm.filter fun p => !p.lives
        rw [List.filter_cons, if_neg (by rw [hl]; decide)] at this
        exact this
      have h2 : ((s.pieces.map fun y => if y.number = (goneP x who s.clock).number then goneP x who s.clock else y).filter fun p => !p.lives).Perm (goneP x who s.clock :: ((s.pieces.filter fun y => y.number != x.number).filter fun p => !p.lives)) := by
        have := (hpm.map fun y => if y.number = (goneP x who s.clock).number then goneP x who s.clock else y).filter fun p => !p.lives
        rw [List.map_cons, if_pos (show x.number = (goneP x who s.clock).number from rfl), List.filter_cons, if_pos (show (!(goneP x who s.clock).lives) = true from rfl)] at this
        rw [show ((s.pieces.filter fun y => y.number != x.number).map fun y => if y.number = (goneP x who s.clock).number then goneP x who s.clock else y) = s.pieces.filter fun y => y.number != x.number by
          rw [show (s.pieces.filter fun y => y.number != x.number) = (s.pieces.filter fun y => y.number != x.number).map id by rw [List.map_id], List.map_map]
          refine List.map_congr_left fun y hy => ?_
          have := (List.mem_filter.mp hy).2
          rw [bne_iff_ne] at this
          show (if y.number = x.number then _ else y) = y
          rw [if_neg this]] at this
        exact this
      exact ((List.perm_append_comm.trans ((wp.trans h1).cons _)).trans h2.symm)
    · rw [List.map_append, List.pairwise_append]
      refine ⟨ws, List.pairwise_singleton _ _, fun a ha b hb => ?_⟩
      obtain ⟨y, hy, rfl⟩ := List.mem_map.mp ha
      have e : b = s.clock := List.mem_singleton.mp hb
      rw [e]
      exact wc y hy
    · rcases List.mem_append.mp hy with hy | hy
      · have := wc y hy
        show _ < s.clock + 1
        omega
      · have e : y = goneP x who s.clock := List.mem_singleton.mp hy
        rw [e]
        show s.clock < s.clock + 1
        omega
  · obtain ⟨y, hy, ⟨c, e⟩ | ⟨c, e⟩⟩ := with_mem hy'
    · rw [e]
      exact R.size x hx
    · rw [e]
      exact R.size y hy
  · obtain ⟨y, hy, ⟨c, e⟩ | ⟨c, e⟩⟩ := with_mem hy'
    · rw [e]
      exact R.wide x hx
    · rw [e]
      exact R.wide y hy
  · show (s.pieces.map _).length ≤ 65536
    rw [List.length_map]
    exact R.many
end GK
end
section
set_option linter.all false
set_option maxRecDepth 100000
namespace GK
theorem giveUp_sim {A : MAsks} {h : MHouse} {s : Sh30.State} {t : Kg46.State} {F : Nat → MPiece} {x : Sh30.Piece} {who : Nat} {f : Sh30.State → Sh30.Prog Sh30.Ans} (R : RelH h s t F) (hx : x ∈ s.pieces) (hl : x.lives = true) (hb : (fin o30 A (Sh30.give s x who f)).2.2.length ≤ LIM) :
    ∃ A' h' s' t' F', h.giveUp A (x.number : Int) (who : Int) = some (A', h') ∧ RelH h' s' t' F' ∧ Keeps h h' ∧ fin o30 A (Sh30.give s x who f) = fin o30 A' (f s') := by
  obtain ⟨A1, ks, fo, t1, q1, R1, q3⟩ := look_sim (f := fun t _ =>
    let u := Sh30.filled { t.with_ { x with gone := some (who, t.clock) } with clock := t.clock + 1 } x.place (List.replicate x.size Sh30.GONE)
    Sh30.letMany (some u.hold) (u.held.length + 1) u f) R hx hb
  obtain ⟨t2, R2⟩ := R1.holds hx hl who
  have q3 : fin o30 A (Sh30.give s x who f) = _ := q3
  rw [q3] at hb
  have hlen := wait_len R2
  have hw1 := wait_len R1
  have hw1 : h.waiting.length = _ := hw1
  have hle : h.waiting.length ≤ 65536 := by
    rw [hw1]
    exact Nat.le_trans (List.length_filter_le _ _) R1.many
  rw [show (({ h with kinds := ks, pieces := put h.pieces (x.number : Int) (rightP (F x.number)) } : MHouse).waiting ++ [(x.number : Int)]).length = h.waiting.length + 1 by rw [List.length_append]; rfl] at hlen
  obtain ⟨A3, h3, s3, t3, F3, r1, R3, r2, r3⟩ := letMany_sim (f := f) (h.waiting.length + 1) A1 _ _ t2 _ _ R2 (Nat.le_of_eq hlen.symm) rfl (by rw [hlen]; exact hb)
  have hl : look (put h.pieces (x.number : Int) (rightP (F x.number))) (x.number : Int) = some (rightP (F x.number)) := by
    rw [look_put (R.look hx), if_pos rfl]
  have eF : upF F x.number (rightP (F x.number)) x.number = rightP (F x.number) := if_pos rfl
  refine ⟨A3, h3, s3, t3, F3, ?_, R3, Keeps.trans ?_ r2, ?_⟩
  · unfold MHouse.giveUp
    rw [q1, Option.bind_some]
    show (look (put h.pieces (x.number : Int) (rightP (F x.number))) (x.number : Int)).bind _ = _
    rw [hl, Option.bind_some]
    show (if (F x.number).number = (x.number : Int) ∧ h.waiting.length < LIM then letL (h.waiting.length + 1) A1 _ else none) = _
    rw [if_pos ⟨(R.rel x hx).number, by show h.waiting.length < 16777216; omega⟩, ← r1, eF]
  · intro n p hn
    unfold MHouse.find at hn ⊢
    rw [look_append] at hn
    show ∃ p', look (put (put h.pieces (x.number : Int) (rightP (F x.number))) (x.number : Int) ((upF F x.number (rightP (F x.number)) x.number).hold (who : Int)) ++ h.dead) n = some p' ∧ _
    rw [look_append, look_put hl, look_put (R.look hx), eF]
    by_cases c : n = (x.number : Int)
    · subst c
      rw [if_pos rfl]
      rw [R.look hx] at hn
      cases hn
      exact ⟨_, rfl, rfl, rfl⟩
    · rw [if_neg c, if_neg c]
      exact ⟨p, hn, rfl, rfl⟩
  · rw [q3, ← r3, hlen]
end GK
end
section
set_option linter.all false
set_option maxRecDepth 100000
namespace GK
/-- a call done alike -/
def Alike (A : MAsks) (r : Res) (p : Sh30.Prog Sh30.Ans) : Prop := ∃ A' h' s' t' F' a, r = some (A', h', a.value :: a.out) ∧ RelH h' s' t' F' ∧ fin o30 A p = (some s', a, A'.rows)
theorem find_congr' {α : Type} {p q : α → Bool} : ∀ {l : List α}, (∀ x ∈ l, p x = q x) → l.find? p = l.find? q
  | [], _ => rfl
  | y :: l, h => by
    rw [List.find?_cons, List.find?_cons, h y List.mem_cons_self, find_congr' fun x hx => h x (List.mem_cons_of_mem _ hx)]
section
variable {h : MHouse} {s : Sh30.State} {t : Kg46.State} {F : Nat → MPiece}
def pairOf (F : Nat → MPiece) (x : Sh30.Piece) : Int × MPiece := ((x.number : Int), F x.number)
theorem RelH.find (R : RelH h s t F) (c : Int × MPiece → Bool) (d : Sh30.Piece → Bool) (hc : ∀ x ∈ s.pieces, c (pairOf F x) = d x) : h.pieces.find? c = (s.pieces.find? d).map (pairOf F) := by
  rw [R.pcs, show (s.pieces.map fun x => ((x.number : Int), F x.number)) = s.pieces.map (pairOf F) from rfl, List.find?_map]
  rw [find_congr' (p := c ∘ pairOf F) (q := d) fun x hx => hc x hx]
theorem RelH.living (R : RelH h s t F) (p : Int) : livingAt h.pieces p = (s.liveAt p).map (pairOf F) := by
  refine R.find _ _ fun x hx => ?_
  have P := R.rel x hx
  show (decide ((F x.number).place = p) && !(F x.number).held) = (x.lives && (x.place : Int) == p)
  rw [P.place, P.held, Bool.not_not, Bool.and_comm]
  rfl
theorem RelH.with_ (R : RelH h s t F) (at_ : Int) (n : Nat) : pieceWith h.pieces at_ (n : Int) = (s.inBlock at_ n).map (pairOf F) := by
  refine R.find _ _ fun x hx => ?_
  have P := R.rel x hx
  have ht := P.total
  have hf := P.front
  show (decide ((F x.number).block ≤ at_) && decide (at_ + (n : Int) ≤ (F x.number).end_ + (F x.number).guard)) = (decide ((x.block : Int) ≤ at_) && decide (at_ + (n : Int) ≤ (x.block : Int) + x.total))
  unfold MPiece.end_
  rw [P.block, P.place, P.size, P.guard]
  congr 2
  rw [eq_iff_iff]
  omega
theorem RelH.place_inj (R : RelH h s t F) {x y : Sh30.Piece} (hx : x ∈ s.pieces) (hy : y ∈ s.pieces) (e : x.place = y.place) : x = y := by
  have h1 := (R.rel x hx).total
  have h2 := (R.rel x hx).front
  have h3 := (R.rel y hy).total
  have h4 := (R.rel y hy).front
  have h5 := R.g1
  exact R.apart hx hy (j := x.place) h2 (by omega) (by omega) (by omega)
theorem RelH.at_ (R : RelH h s t F) (p : Int) : pieceAt h.pieces p = ((s.liveAt p).orElse fun _ => s.heldAt p).map (pairOf F) := by
  have e : pieceAt h.pieces p = (s.pieces.find? fun x => (x.place : Int) == p).map (pairOf F) := by
    refine R.find _ _ fun x hx => ?_
    show decide ((F x.number).place = p) = _
    rw [(R.rel x hx).place]
    rfl
  rw [e]
  congr 1
  cases hc : s.pieces.find? fun x => (x.place : Int) == p with
  | none =>
    rw [List.find?_eq_none] at hc
    have h1 : s.liveAt p = none := List.find?_eq_none.mpr fun x hx q => hc x hx (by
      rw [Bool.and_eq_true] at q
      exact q.2)
    have h2 : s.heldAt p = none := List.find?_eq_none.mpr fun x hx q => hc x hx (by
      rw [Bool.and_eq_true] at q
      exact q.2)
    rw [h1, h2]
    rfl
  | some x =>
    have hx := List.mem_of_find?_eq_some hc
    have hp := List.find?_some hc
    have hq : (x.place : Int) = p := eq_of_beq hp
    cases hl : x.lives with
    | true =>
      have h1 : s.liveAt p = some x := find_unique hx (by rw [hl, hp]; rfl) fun y hy q => by
        rw [Bool.and_eq_true] at q
        have := eq_of_beq q.2
        exact R.place_inj hy hx (by omega)
      rw [h1]
      rfl
    | false =>
      have h1 : s.liveAt p = none := List.find?_eq_none.mpr fun y hy q => by
        rw [Bool.and_eq_true] at q
        have := eq_of_beq q.2
        have e := R.place_inj hy hx (by omega)
        rw [e, hl] at q
        exact absurd q.1 (by decide)
      have h2 : s.heldAt p = some x := find_unique hx (by rw [hl, hp]; rfl) fun y hy q => by
        rw [Bool.and_eq_true] at q
        have := eq_of_beq q.2
        exact R.place_inj hy hx (by omega)
      rw [h1, h2]
      rfl
theorem live_mem {p : Int} {x : Sh30.Piece} (h : s.liveAt p = some x) : x ∈ s.pieces ∧ x.lives = true ∧ (x.place : Int) = p := by
  have h1 := List.find?_some h
  rw [Bool.and_eq_true] at h1
  exact ⟨List.mem_of_find?_eq_some h, h1.1, eq_of_beq h1.2⟩
theorem held_mem {p : Int} {x : Sh30.Piece} (h : s.heldAt p = some x) : x ∈ s.pieces ∧ x.lives = false ∧ (x.place : Int) = p := by
  have h1 := List.find?_some h
  rw [Bool.and_eq_true] at h1
  exact ⟨List.mem_of_find?_eq_some h, by simpa using h1.1, eq_of_beq h1.2⟩
theorem tell_done {A : MAsks} (R : RelH h s t F) {kind place : Nat} {a b : Int} {who : Nat} {z : Int} (h1 : 1 ≤ kind) (h2 : kind ≤ 7) (hb : (fin o30 A (Sh30.tell s kind place a b who fun t => .done (some t) (Sh30.num z))).2.2.length ≤ LIM) :
    Alike A ((h.tell A (kind : Int) (place : Int) a b (who : Int)).map fun x => (x.1, x.2, [z])) (Sh30.tell s kind place a b who fun t => .done (some t) (Sh30.num z)) := by
  rw [fin_tell] at hb
  obtain ⟨ks, k1, k2⟩ := tell_sim (h := h) (s := s) (place := place) (a := a) (b := b) (who := who) R.kinds h1 h2 (fin_room hb)
  refine ⟨_, { h with kinds := ks }, _, t, F, Sh30.num z, by rw [k1]; rfl, R.newKinds k2, ?_⟩
  rw [fin_tell, fin_done]
theorem noneThere_sim {A : MAsks} (R : RelH h s t F) {p : Int} {who : Nat} (hp : 0 ≤ p) (hl : s.liveAt p = none) (hb : (fin o30 A (Sh30.noneThere s p who)).2.2.length ≤ LIM) : Alike A (h.noPiece A p (who : Int)) (Sh30.noneThere s p who) := by
  unfold MHouse.noPiece
  rw [R.at_ p, hl]
  unfold Sh30.noneThere at hb ⊢
  obtain ⟨q, rfl⟩ : ∃ q : Nat, p = (q : Int) := ⟨p.toNat, by omega⟩
  cases hh : s.heldAt (q : Int) with
  | some x =>
    rw [hh] at hb
    obtain ⟨hx, h1, h2⟩ := held_mem hh
    have P := R.rel x hx
    show Alike A ((h.tell A 1 (q : Int) (F x.number).number (F x.number).giver (who : Int)).map fun x => (x.1, x.2, [-1])) (Sh30.tell s 1 x.place (x.number : Nat) ((x.gone.getD (0, 0)).1 : Nat) who fun t => .done (some t) (Sh30.num (-1)))
    have h3 : x.place = q := by omega
    rw [P.number, P.giver, ← h3]
    exact tell_done R (kind := 1) (by decide) (by decide) hb
  | none =>
    rw [hh] at hb
    show Alike A (match pieceWith h.pieces (q : Int) 1 with
      | some p => _
      | none => _) (match s.inBlock (q : Int) 1 with
      | some x => _
      | none => _)
    have hb : (fin o30 A (match s.inBlock (q : Int) 1 with
      | some x => Sh30.tell s 2 (q : Int).toNat (x.number : Nat) ((q : Int) - (x.place : Int)) who fun t => .done (some t) (Sh30.num (-2))
      | none => Sh30.tell s 3 (q : Int).toNat 0 0 who fun t => .done (some t) (Sh30.num (-3)))).2.2.length ≤ LIM := hb
    rw [show pieceWith h.pieces (q : Int) 1 = _ from R.with_ (q : Int) 1]
    cases hi : s.inBlock (q : Int) 1 with
    | some x =>
      rw [hi] at hb
      have hx : x ∈ s.pieces := List.mem_of_find?_eq_some hi
      have P := R.rel x hx
      show Alike A ((h.tell A 2 (q : Int) (F x.number).number ((q : Int) - (F x.number).place) (who : Int)).map fun x => (x.1, x.2, [-2])) (Sh30.tell s 2 (q : Int).toNat (x.number : Nat) ((q : Int) - (x.place : Int)) who fun t => .done (some t) (Sh30.num (-2)))
      rw [P.number, P.place]
      exact tell_done R (kind := 2) (by decide) (by decide) hb
    | none =>
      rw [hi] at hb
      exact tell_done R (kind := 3) (by decide) (by decide) hb
theorem giveC_sim {A : MAsks} (R : RelH h s t F) {p w : Int} (hb : (fin o30 A (Sh30.spec (some s) (.give p w))).2.2.length ≤ LIM) : Alike A (h.give A p w) (Sh30.spec (some s) (.give p w)) := by
  unfold MHouse.give
  have es : Sh30.spec (some s) (.give p w) = if (Sh30.isPlace p && Sh30.isWho w) = false then .done (some s) (Sh30.num (-8)) else (match s.liveAt p with
      | none => Sh30.noneThere s p w.toNat
      | some x => Sh30.give s x w.toNat fun t => .done (some t) (Sh30.num x.size)) := rfl
  rw [es] at hb ⊢
  by_cases c : (Sh30.isPlace p && Sh30.isWho w) = false
  · rw [if_pos c, if_pos (show (isPlace p && isWho w) = false from c)]
    exact ⟨A, h, s, t, F, Sh30.num (-8), rfl, R, fin_done _ _ _ _⟩
  · rw [if_neg c] at hb ⊢
    rw [if_neg (show ¬ (isPlace p && isWho w) = false from c), R.living p]
    rw [Bool.not_eq_false, Bool.and_eq_true] at c
    unfold Sh30.isPlace Sh30.isWho Sh30.among at c
    simp only [Bool.and_eq_true, decide_eq_true_eq] at c
    obtain ⟨u, rfl⟩ : ∃ u : Nat, w = (u : Int) := ⟨w.toNat, by omega⟩
    rw [Int.toNat_natCast] at hb ⊢
    cases hl : s.liveAt p with
    | none =>
      rw [hl] at hb
      exact noneThere_sim R c.1.1 hl hb
    | some x =>
      rw [hl] at hb
      obtain ⟨hx, l1, l2⟩ := live_mem hl
      obtain ⟨A', h', s', t', F', q1, R', q2, q3⟩ := giveUp_sim (f := fun t => .done (some t) (Sh30.num x.size)) R hx l1 hb
      obtain ⟨p', e1, e2, _⟩ := q2 (x.number : Int) (F x.number) (by
        unfold MHouse.find
        rw [look_append, R.look hx]
        rfl)
      refine ⟨A', h', s', t', F', Sh30.num x.size, ?_, R', by rw [q3, fin_done]⟩
      show ((h.giveUp A (x.number : Int) (u : Int)).bind _) = _
      rw [q1, Option.bind_some]
      show ((h'.find (x.number : Int)).map fun p1 => (A', h', [p1.size])) = _
      rw [e1, Option.map_some, e2, (R.rel x hx).size]
      rfl
end
end GK
end
section
set_option linter.all false
set_option maxRecDepth 100000
namespace GK
def frontN (g e : Nat) : Nat := (g + 2 ^ e - 1) / 2 ^ e * 2 ^ e
theorem front_eq {g e : Nat} : frontOf (g : Int) ((2 ^ e : Nat) : Int) = (frontN g e : Int) := by
  unfold frontOf frontN
  have h : 0 < 2 ^ e := Nat.two_pow_pos e
  rw [show (g : Int) + ((2 ^ e : Nat) : Int) - 1 = ((g + 2 ^ e - 1 : Nat) : Int) by omega, Int.fdiv_eq_ediv_of_nonneg _ (by omega), ← Int.natCast_ediv, ← Int.natCast_mul]
theorem front_le {g e : Nat} (he : e ≤ 12) : g ≤ frontN g e ∧ frontN g e ≤ g + 4096 := by
  unfold frontN
  have h : 0 < 2 ^ e := Nat.two_pow_pos e
  have h2 : 2 ^ e ≤ 2 ^ 12 := Nat.pow_le_pow_right (by decide) he
  have h3 := Nat.div_add_mod (g + 2 ^ e - 1) (2 ^ e)
  have h4 := Nat.mod_lt (g + 2 ^ e - 1) h
  rw [Nat.mul_comm] at h3
  omega
/-- a new piece's bytes -/
def newBytes (b f n g : Nat) : List Nat := Sh30.guards b f ++ (List.replicate n Sh30.NEW ++ Sh30.guards (b + f + n) g)
theorem new_length (b f n g : Nat) : (newBytes b f n g).length = f + n + g := by
  unfold newBytes
  rw [List.length_append, List.length_append, guards_length, guards_length, List.length_replicate]
  omega
theorem new_lt (b f n g : Nat) : ∀ x ∈ newBytes b f n g, x < 256 := fun x hx => by
  unfold newBytes at hx
  rcases List.mem_append.mp hx with hx | hx
  · exact guards_lt _ _ _ hx
  · rcases List.mem_append.mp hx with hx | hx
    · rw [List.eq_of_mem_replicate hx]
      decide
    · exact guards_lt _ _ _ hx
theorem new_get (b f n g i : Nat) (hi : i < f + n + g) : (newBytes b f n g).getD i 0 = if f ≤ i ∧ i < f + n then 205 else Sh30.guardByte (b + i) := by
  unfold newBytes
  rw [List.getD_eq_getElem?_getD]
  by_cases c : i < f
  · rw [List.getElem?_append_left (by rw [guards_length]; exact c), if_neg (by omega), ← List.getD_eq_getElem?_getD, guards_get _ _ _ c]
  · rw [List.getElem?_append_right (by rw [guards_length]; omega), guards_length]
    by_cases d : i < f + n
    · rw [List.getElem?_append_left (by rw [List.length_replicate]; omega), if_pos (by omega), List.getElem?_replicate, if_pos (by omega)]
      rfl
    · rw [List.getElem?_append_right (by rw [List.length_replicate]; omega), List.length_replicate, if_neg (by omega), ← List.getD_eq_getElem?_getD, guards_get _ _ _ (by omega)]
      congr 1
      omega
/-- the new piece -/
def newP (k b f n g w : Nat) : MPiece := ⟨(k : Int), (b : Int), ((b + f : Nat) : Int), (n : Int), (g : Int), (w : Int), false, 0, []⟩
def newX (k b f n g w : Nat) : Sh30.Piece := ⟨k, b, f + n + g, b + f, n, w, none⟩
theorem new_rel' (k b f n g w : Nat) : PcRel g (newP k b f n g w) (newX k b f n g w) :=
  ⟨rfl, rfl, rfl, rfl, rfl, rfl, rfl, rfl, Nat.le_add_right _ _, by show f + n + g = (b + f - b) + n + g; omega⟩
theorem new_bytes {k b f n g w : Nat} {new : Nat → Nat} (hn : ∀ j, b ≤ j → j < b + (f + n + g) → new j = (newBytes b f n g).getD (j - b) 0) : PcBytes (newP k b f n g w) (newX k b f n g w) new := by
  refine ⟨List.nodup_nil, fun y hy => (List.not_mem_nil hy).elim, fun y hy => (List.not_mem_nil hy).elim, fun j j1 j2 => ?_⟩
  have j1 : b ≤ j := j1
  have j2 : j < b + (f + n + g) := j2
  have R := new_rel' k b f n g w
  rw [hn j j1 j2, new_get _ _ _ _ _ (by omega)]
  show (newP k b f n g w).usual (j : Int) = _
  by_cases c : f ≤ j - b ∧ j - b < f + n
  · rw [if_pos c, usual_own R (by show b + f ≤ j ∧ j < b + f + n; omega)]
    rfl
  · rw [if_neg c, usual_guard R (by show ¬ (b + f ≤ j ∧ j < b + f + n); omega), show b + (j - b) = j by omega]
theorem same_blocks {h : MHouse} {s : Sh30.State} {t t' : Kg46.State} {F : Nat → MPiece} {B : MBlocks} (R : RelH h s t F) (Rb : RelB B t') (S : SameB t t') : RelH { h with bl := B } { s with blocks := some t' } t' F := by
  refine ⟨rfl, Rb, R.guard, R.g1, R.g2, R.hold, R.next, R.pcs, R.rel, fun y hy => ?_, R.num, R.lt, R.dead, ?_, R.wait, R.kinds, R.size, R.wide, R.many⟩
  · have hB := R.byt y hy
    refine ⟨hB.nd, hB.keys, hB.vals, fun j j1 j2 => ?_⟩
    rw [hB.byte j j1 j2, R.bl]
    show ((byte46 t j : Nat) : Int) = ((byte46 t' j : Nat) : Int)
    rw [S.bytes j]
  · have : allB t' = allB t := by
      unfold allB
      rw [S.smalls, S.greats]
    rw [this]
    exact R.blk
theorem newPiece_sim {A : MAsks} {h : MHouse} {s : Sh30.State} {t : Kg46.State} {F : Nat → MPiece} {n e who : Nat} {f : Sh30.State → Option Nat → Sh30.Prog Sh30.Ans} (R : RelH h s t F) (hn : n ≤ 1048576) (he : 4 ≤ e) (he2 : e ≤ 12) (hm : s.pieces.length < 65536) (hb : (fin o30 A (Sh30.take s n e who f)).2.2.length ≤ LIM) :
    ∃ A' h' s' t' F', RelH h' s' t' F' ∧
      ((h.newPiece A (n : Int) ((2 ^ e : Nat) : Int) (who : Int) = some (A', h', none) ∧ fin o30 A (Sh30.take s n e who f) = fin o30 A' (f s' none)) ∨
       ∃ b, h.newPiece A (n : Int) ((2 ^ e : Nat) : Int) (who : Int) = some (A', h', some (s.next : Int)) ∧ fin o30 A (Sh30.take s n e who f) = fin o30 A' (f s' (some (b + frontN s.guard e))) ∧
         s'.pieces = s.pieces ++ [newX s.next b (frontN s.guard e) n s.guard who] ∧ F' = upF F s.next (newP s.next b (frontN s.guard e) n s.guard who)) := by
  have hfr := front_le (g := s.guard) he2
  have hg1 := R.g1
  have hg2 := R.g2
  have ht0 : s.blocks = some t := R.bl
  -- the block below
  have ee : Sh30.take s n e who f = Sh30.lower s (.take ((frontN s.guard e + n + s.guard : Nat) : Int) (e : Nat)) fun t a => if a.value < 0 then f t none else
      f (Sh30.filled { t with pieces := t.pieces ++ [⟨t.next, a.value.toNat, frontN s.guard e + n + s.guard, a.value.toNat + frontN s.guard e, n, who, none⟩], next := t.next + 1 } a.value.toNat (newBytes a.value.toNat (frontN s.guard e) n s.guard)) (some (a.value.toNat + frontN s.guard e)) := rfl
  have es : Kg46.spec s.blocks (.take ((frontN s.guard e + n + s.guard : Nat) : Int) (e : Nat)) = Kg46.take t (frontN s.guard e + n + s.guard) e fun t p => match p with
      | some q => .done (some t) (Kg46.num q)
      | none => .done (some t) (Kg46.num (-7)) := by
    rw [ht0]
    show (if (Kg46.within ((frontN s.guard e + n + s.guard : Nat) : Int) 0 Kg46.BIG && Kg46.within ((e : Nat) : Int) 4 12) = false then _ else Kg46.take t (((frontN s.guard e + n + s.guard : Nat) : Int).toNat) (((e : Nat) : Int).toNat) _) = _
    rw [if_neg (by
      unfold Kg46.within Kg46.BIG
      simp only [Bool.not_eq_false, Bool.and_eq_true, decide_eq_true_eq]
      omega), Int.toNat_natCast, Int.toNat_natCast]
    rfl
  rw [ee] at hb ⊢
  have hb1 := fin_lower_len hb
  rw [es] at hb1
  obtain ⟨A1, B1, t1, r, q1, q2, R1, q3, q4, q5⟩ := takeB_sim R.rb (n := frontN s.guard e + n + s.guard) (by omega) (by omega) he2 hb1
  rw [fin_lower, es, q3]
  have hq : frontOf h.guard ((2 ^ e : Nat) : Int) + (n : Int) + h.guard = ((frontN s.guard e + n + s.guard : Nat) : Int) := by
    rw [R.guard, front_eq]
    omega
  have hnew : h.newPiece A (n : Int) ((2 ^ e : Nat) : Int) (who : Int) = (match r.map fun (q : Nat) => (q : Int) with
    | none => some (A1, { h with bl := B1 }, none)
    | some b => if h.pieces.length < LIM ∧ (look h.pieces h.next).isSome = false ∧ (look h.dead h.next).isSome = false then
      some (A1, { h with bl := B1, pieces := h.pieces ++ [(h.next, ⟨h.next, b, b + frontOf h.guard ((2 ^ e : Nat) : Int), (n : Int), h.guard, (who : Int), false, 0, []⟩)], next := h.next + 1 }, some h.next) else none) := by
    unfold MHouse.newPiece
    rw [hq, q1, Option.bind_some]
    all_goals (cases r <;> rfl)
  rw [hnew]
  have eA : (⟨A.ans, A1.rows⟩ : MAsks) = A1 := by rw [← q2]
  cases r with
  | none =>
    refine ⟨A1, { h with bl := B1 }, { s with blocks := some t1 }, t1, F, same_blocks R R1 (q4 rfl), .inl ⟨rfl, ?_⟩⟩
    rw [fin_done]
    show fin o30 ⟨A.ans, A1.rows⟩ (if (-7 : Int) < 0 then _ else _) = _
    rw [if_pos (by decide), eA]
  | some b =>
    have T := q5 b rfl
    obtain ⟨run, hall⟩ := T.all
    have hB : hasB t1.smalls t1.greats b (frontN s.guard e + n + s.guard) := ⟨run, hall.mem_iff.mpr List.mem_cons_self⟩
    obtain ⟨⟨t2, e2, R2, s2, g2⟩, hp⟩ := putAt46 hB (h := some t1) (B := B1) (at_ := b) (b := newBytes b (frontN s.guard e) n s.guard) ⟨t1, rfl, R1, rfl, rfl⟩ (Nat.le_refl _) (by rw [new_length]; exact Nat.le_refl _) (new_lt _ _ _ _)
    have hp : ∀ j, byteH (some t2) j = if b ≤ j ∧ j < b + (frontN s.guard e + n + s.guard) then (newBytes b (frontN s.guard e) n s.guard).getD (j - b) 0 else byte46 t1 j := fun j => by
      have := hp j
      rw [e2, new_length] at this
      exact this
    have hblk : ((allB t2).map fun b => (b.1, b.2.size)).Perm ((s.pieces ++ [newX s.next b (frontN s.guard e) n s.guard who]).map fun x => ((x.block : Int), (x.total : Int))) := by
      have h0 : allB t2 = allB t1 := by
        unfold allB
        rw [s2, g2]
      rw [h0, List.map_append]
      exact ((hall.map fun b : Int × MBlock => (b.1, b.2.size)).trans (R.blk.cons _)).trans (List.perm_append_singleton _ _).symm
    have hout : ∀ y ∈ s.pieces, ∀ j, y.block ≤ j → j < y.block + y.total → byteH (some t2) j = byteH s.blocks j := fun y hy j j1 j2 => by
      obtain ⟨run', hy'⟩ := R.has hy
      have hy1 : hasB t1.smalls t1.greats y.block y.total := ⟨run', hall.mem_iff.mpr (List.mem_cons_of_mem _ hy')⟩
      have hno : ¬ (b ≤ j ∧ j < b + (frontN s.guard e + n + s.guard)) := fun q => by
        have ebl := allB_apart R1 hy1 hB j1 j2 q.1 q.2
        have hnd := keys_nodup R1.apart R1.sok
        have := (hall.map (·.1)).nodup_iff.mp hnd
        rw [List.map_cons, List.nodup_cons] at this
        exact this.1 (List.mem_map.mpr ⟨_, hy', by show (y.block : Int) = (b : Int); omega⟩)
      rw [hp j, if_neg hno, ht0]
      obtain ⟨z, hz, z1, z2⟩ := inT_of R.rb (q := y.block) (n := y.total) (run := run') hy'
      exact T.bytes j hno ⟨z, hz, by omega, by omega⟩
    refine ⟨A1, { h with bl := B1, pieces := h.pieces ++ [((s.next : Int), newP s.next b (frontN s.guard e) n s.guard who)], next := ((s.next + 1 : Nat) : Int) }, { s with blocks := some t2, pieces := s.pieces ++ [newX s.next b (frontN s.guard e) n s.guard who], next := s.next + 1 }, t2, upF F s.next (newP s.next b (frontN s.guard e) n s.guard who), ?_, .inr ⟨b, ?_, ?_, rfl, rfl⟩⟩
    · have hne : ∀ y ∈ s.pieces, y.number ≠ s.next := fun y hy => by
        have := R.lt y hy
        omega
      refine ⟨rfl, R2, R.guard, R.g1, R.g2, R.hold, rfl, ?_, fun y hy => ?_, fun y hy => ?_, ?_, fun y hy => ?_, fun d hd => ?_, hblk, ?_, R.kinds, fun y hy => ?_, fun y hy => ?_, ?_⟩
      · show h.pieces ++ [_] = (s.pieces ++ [newX s.next b (frontN s.guard e) n s.guard who]).map _
        rw [List.map_append, R.pcs]
        congr 1
        · refine List.map_congr_left fun y hy => ?_
          unfold upF
          rw [if_neg (hne y hy)]
        · unfold upF
          show _ = [((s.next : Int), if s.next = s.next then _ else _)]
          rw [if_pos rfl]
      · rcases List.mem_append.mp hy with hy | hy
        · unfold upF
          rw [if_neg (hne y hy)]
          exact R.rel y hy
        · have ey : y = _ := List.mem_singleton.mp hy
          subst ey
          unfold upF
          rw [if_pos (show (newX s.next b (frontN s.guard e) n s.guard who).number = s.next from rfl)]
          exact new_rel' _ _ _ _ _ _
      · rcases List.mem_append.mp hy with hy | hy
        · unfold upF
          rw [if_neg (hne y hy)]
          have hB := R.byt y hy
          refine ⟨hB.nd, hB.keys, hB.vals, fun j j1 j2 => ?_⟩
          rw [hB.byte j j1 j2]
          show _ = ((byteH (some t2) j : Nat) : Int)
          rw [hout y hy j j1 j2]
        · have ey : y = _ := List.mem_singleton.mp hy
          subst ey
          unfold upF
          rw [if_pos (show (newX s.next b (frontN s.guard e) n s.guard who).number = s.next from rfl)]
          exact new_bytes fun j j1 j2 => by
            show byteH (some t2) j = _
            rw [hp j, if_pos ⟨j1, j2⟩]
      · show ((s.pieces ++ [newX s.next b (frontN s.guard e) n s.guard who]).map Sh30.Piece.number).Pairwise (· < ·)
        rw [List.map_append, List.pairwise_append]
        refine ⟨R.num, List.pairwise_singleton _ _, fun x hx y hy => ?_⟩
        obtain ⟨z, hz, rfl⟩ := List.mem_map.mp hx
        have ey : y = s.next := List.mem_singleton.mp hy
        rw [ey]
        exact R.lt z hz
      · show y.number < s.next + 1
        rcases List.mem_append.mp hy with hy | hy
        · exact Nat.lt_succ_of_lt (R.lt y hy)
        · have ey : y = _ := List.mem_singleton.mp hy
          subst ey
          exact Nat.lt_succ_self _
      · obtain ⟨d1, d2⟩ := R.dead d hd
        refine ⟨by show d.1 < ((s.next + 1 : Nat) : Int); omega, fun y hy => ?_⟩
        rcases List.mem_append.mp hy with hy | hy
        · exact d2 y hy
        · have ey : y = _ := List.mem_singleton.mp hy
          subst ey
          show d.1 ≠ (s.next : Int)
          omega
      · obtain ⟨w, we, wp, ws, wc⟩ := R.wait
        refine ⟨w, we, ?_, ws, wc⟩
        show w.Perm ((s.pieces ++ [newX s.next b (frontN s.guard e) n s.guard who]).filter fun p => !p.lives)
        rw [List.filter_append]
        rw [show [newX s.next b (frontN s.guard e) n s.guard who].filter (fun p => !p.lives) = [] from rfl, List.append_nil]
        exact wp
      · rcases List.mem_append.mp hy with hy | hy
        · exact R.size y hy
        · have ey : y = _ := List.mem_singleton.mp hy
          subst ey
          exact hn
      · rcases List.mem_append.mp hy with hy | hy
        · exact R.wide y hy
        · have ey : y = _ := List.mem_singleton.mp hy
          subst ey
          show frontN s.guard e + n + s.guard ≤ 2000000
          omega
      · show (s.pieces ++ [newX s.next b (frontN s.guard e) n s.guard who]).length ≤ 65536
        rw [List.length_append]
        show s.pieces.length + 1 ≤ 65536
        omega
    · show (if h.pieces.length < LIM ∧ (look h.pieces h.next).isSome = false ∧ (look h.dead h.next).isSome = false then _ else none) = _
      have l1 : look h.pieces h.next = none := key_none_look fun q => by
        obtain ⟨d, hd, ed⟩ := List.mem_map.mp q
        rw [R.pcs] at hd
        obtain ⟨y, hy, rfl⟩ := List.mem_map.mp hd
        have := R.lt y hy
        have ed : (y.number : Int) = h.next := ed
        rw [R.next] at ed
        omega
      have l2 : look h.dead h.next = none := key_none_look fun q => by
        obtain ⟨d, hd, ed⟩ := List.mem_map.mp q
        have := (R.dead d hd).1
        rw [R.next] at ed
        omega
      have l3 : h.pieces.length = s.pieces.length := by rw [R.pcs, List.length_map]
      rw [l1, l2, if_pos ⟨by show h.pieces.length < 16777216; omega, rfl, rfl⟩, R.guard, front_eq, R.next]
      rfl
    · rw [fin_done]
      show fin o30 ⟨A.ans, A1.rows⟩ (if ((b : Nat) : Int) < 0 then _ else f (Sh30.filled _ ((b : Nat) : Int).toNat (newBytes ((b : Nat) : Int).toNat (frontN s.guard e) n s.guard)) (some (((b : Nat) : Int).toNat + frontN s.guard e))) = _
      rw [if_neg (by omega), eA, Int.toNat_natCast]
      congr 2
      unfold Sh30.filled
      show ({ s with blocks := Sh30.putAt (some t1) b (newBytes b (frontN s.guard e) n s.guard), pieces := _, next := s.next + 1 } : Sh30.State) = _
      rw [e2]
      rfl
end GK
end
section
set_option linter.all false
set_option maxRecDepth 100000
namespace GK
theorem takeC_sim {A : MAsks} {h : MHouse} {s : Sh30.State} {t : Kg46.State} {F : Nat → MPiece} (R : RelH h s t F) {n e w : Int} (hb : (fin o30 A (Sh30.spec (some s) (.take n e w))).2.2.length ≤ LIM) : Alike A (h.take A n e w) (Sh30.spec (some s) (.take n e w)) := by
  have es : Sh30.spec (some s) (.take n e w) = if (Sh30.among n 0 Sh30.BIG && (Sh30.among e 4 12 && Sh30.isWho w)) = false then .done (some s) (Sh30.num (-8)) else if Sh30.MANY ≤ s.pieces.length then .done (some s) (Sh30.num (-6)) else
      Sh30.take s n.toNat e.toNat w.toNat fun t p => .done (some t) (match p with
        | some q => Sh30.num q
        | none => Sh30.num (-7)) := rfl
  rw [es] at hb ⊢
  have em : h.take A n e w = if (Sh30.among n 0 Sh30.BIG && (Sh30.among e 4 12 && Sh30.isWho w)) = false then some (A, h, [-8]) else if (h.pieces.length : Int) = 65536 then some (A, h, [-6]) else
    (h.newPiece A n (2 ^ e.toNat) w).bind fun x => match x.2.2 with
      | none => some (x.1, x.2.1, [-7])
      | some n => (look x.2.1.pieces n).map fun p => (x.1, x.2.1, [p.place]) := rfl
  rw [em]
  have hlen : h.pieces.length = s.pieces.length := by rw [R.pcs, List.length_map]
  by_cases c : (Sh30.among n 0 Sh30.BIG && (Sh30.among e 4 12 && Sh30.isWho w)) = false
  · rw [if_pos c, if_pos c]
    exact ⟨A, h, s, t, F, Sh30.num (-8), rfl, R, fin_done _ _ _ _⟩
  · rw [if_neg c] at hb ⊢
    rw [if_neg c]
    by_cases d : Sh30.MANY ≤ s.pieces.length
    · have : s.pieces.length ≤ 65536 := R.many
      have : 65536 ≤ s.pieces.length := d
      rw [if_pos d, if_pos (by omega)]
      exact ⟨A, h, s, t, F, Sh30.num (-6), rfl, R, fin_done _ _ _ _⟩
    · have d' : ¬ 65536 ≤ s.pieces.length := d
      rw [if_neg d] at hb ⊢
      rw [if_neg (by omega)]
      rw [Bool.not_eq_false] at c
      unfold Sh30.isWho Sh30.among Sh30.BIG at c
      simp only [Bool.and_eq_true, decide_eq_true_eq] at c
      obtain ⟨n, rfl⟩ : ∃ u : Nat, n = (u : Int) := ⟨n.toNat, by omega⟩
      obtain ⟨e, rfl⟩ : ∃ u : Nat, e = (u : Int) := ⟨e.toNat, by omega⟩
      obtain ⟨w, rfl⟩ : ∃ u : Nat, w = (u : Int) := ⟨w.toNat, by omega⟩
      simp only [Int.toNat_natCast] at hb ⊢
      rw [show (2 : Int) ^ e = ((2 ^ e : Nat) : Int) by rw [Int.natCast_pow]; rfl]
      obtain ⟨A', h', s', t', F', R', ⟨q1, q2⟩ | ⟨b, q1, q2, q3, q4⟩⟩ := newPiece_sim R (n := n) (e := e) (who := w) (by omega) (by omega) (by omega) (by omega) hb
      · rw [q1]
        exact ⟨A', h', s', t', F', Sh30.num (-7), rfl, R', q2.trans (fin_done _ _ _ _)⟩
      · rw [q1, Option.bind_some]
        have hm : newX s.next b (frontN s.guard e) n s.guard w ∈ s'.pieces := by
          rw [q3]
          exact List.mem_append_right _ List.mem_cons_self
        refine ⟨A', h', s', t', F', Sh30.num ((b + frontN s.guard e : Nat) : Int), ?_, R', q2.trans (fin_done _ _ _ _)⟩
        show ((look h'.pieces (s.next : Int)).map fun p => (A', h', [p.place])) = _
        have hl := R'.look hm
        have hl : look h'.pieces (s.next : Int) = some (F' s.next) := hl
        rw [hl, q4]
        unfold upF
        rw [if_pos rfl]
        rfl
/-! #### bytes put into a piece -/
theorem put_look {β : Type} (l : List (Int × β)) (k j : Int) (v : β) : look (put l k v) j = if j = k then some v else look l j := by
  cases e : look l k with
  | some v' => exact look_put e j
  | none =>
    have hn : ¬ (l.any fun p => decide (p.1 = k)) = true := fun q => by
      obtain ⟨p, hp, e2⟩ := List.any_eq_true.mp q
      obtain ⟨v, hv⟩ := look_of_key (k := k) (List.mem_map.mpr ⟨p, hp, of_decide_eq_true e2⟩)
      rw [hv] at e
      cases e
    unfold put
    rw [if_neg hn, look_append]
    by_cases c : j = k
    · subst c
      rw [if_pos rfl, e, look_cons_eq _ _ rfl]
      rfl
    · rw [if_neg c, look_cons_ne _ _ (by show k ≠ j; exact fun q => c q.symm), look_nil, Option.or_none]
theorem put_any {β : Type} {l : List (Int × β)} {k : Int} {v : β} {q : Int × β} (hq : q ∈ put l k v) : q = (k, v) ∨ (q.1 ≠ k ∧ q ∈ l) := by
  cases e : look l k with
  | some v' => exact put_mem e hq
  | none =>
    have hn : ¬ (l.any fun p => decide (p.1 = k)) = true := fun q => by
      obtain ⟨p, hp, e2⟩ := List.any_eq_true.mp q
      obtain ⟨v, hv⟩ := look_of_key (k := k) (List.mem_map.mpr ⟨p, hp, of_decide_eq_true e2⟩)
      rw [hv] at e
      cases e
    unfold put at hq
    rw [if_neg hn] at hq
    rcases List.mem_append.mp hq with h | h
    · refine .inr ⟨fun c => hn (List.any_eq_true.mpr ⟨q, h, decide_eq_true c⟩), h⟩
    · exact .inl (List.mem_singleton.mp h)
theorem put_nd {β : Type} {l : List (Int × β)} (hd : (l.map (·.1)).Nodup) (k : Int) (v : β) : ((put l k v).map (·.1)).Nodup := by
  cases e : look l k with
  | some v' =>
    rw [put_keys e]
    exact hd
  | none =>
    have hn : ¬ (l.any fun p => decide (p.1 = k)) = true := fun q => by
      obtain ⟨p, hp, e2⟩ := List.any_eq_true.mp q
      obtain ⟨v, hv⟩ := look_of_key (k := k) (List.mem_map.mpr ⟨p, hp, of_decide_eq_true e2⟩)
      rw [hv] at e
      cases e
    unfold put
    rw [if_neg hn]
    exact ins_nodup hd (by rw [e]; rfl)
theorem PcBytes.congr {p : MPiece} {x : Sh30.Piece} {a b : Nat → Nat} (B : PcBytes p x a) (h : ∀ j, x.block ≤ j → j < x.block + x.total → a j = b j) : PcBytes p x b := ⟨B.nd, B.keys, B.vals, fun j j1 j2 => by rw [B.byte j j1 j2, h j j1 j2]⟩
theorem put_bytes {g : Nat} {p : MPiece} {x : Sh30.Piece} {old : Nat → Nat} (R : PcRel g p x) (B : PcBytes p x old) (hw : x.total ≤ 2000000) {j v : Nat} (hv : v < 256) (h1 : x.block ≤ j) (h2 : j < x.block + x.total) :
    ∃ p', p.put (j : Int) (v : Int) = some p' ∧ PcRel g p' x ∧ PcBytes p' x fun i => if i = j then v else old i := by
  have hu : ∀ o k, ({ p with others := o } : MPiece).usual k = p.usual k := fun o k => rfl
  have hl := B.len
  unfold MPiece.put
  by_cases c : (v : Int) ≠ p.usual (j : Int)
  · rw [if_pos c, if_pos (by omega)]
    refine ⟨_, rfl, ⟨R.number, R.block, R.place, R.size, R.guard, R.who, R.held, R.giver, R.front, R.total⟩, put_nd B.nd _ _, fun y hy => ?_, fun y hy => ?_, fun i i1 i2 => ?_⟩
    · rcases put_any hy with rfl | ⟨_, hy⟩
      · exact ⟨by show (x.block : Int) ≤ (j : Int); omega, by show (j : Int) < _; omega⟩
      · exact B.keys y hy
    · rcases put_any hy with rfl | ⟨_, hy⟩
      · exact ⟨c, by show (v : Int) < 256; omega⟩
      · exact B.vals y hy
    · have hb := B.byte i i1 i2
      show (look (put p.others (j : Int) (v : Int)) (i : Int)).getD (p.usual (i : Int)) = _
      rw [put_look]
      by_cases d : i = j
      · rw [if_pos (by omega), if_pos d]
        rfl
      · rw [if_neg (by omega), if_neg d]
        exact hb
  · have c : (v : Int) = p.usual (j : Int) := Classical.not_not.mp c
    rw [if_neg (fun q => q c)]
    by_cases d : (look p.others (j : Int)).isSome = true
    · rw [if_pos d]
      refine ⟨_, rfl, ⟨R.number, R.block, R.place, R.size, R.guard, R.who, R.held, R.giver, R.front, R.total⟩, del_nodup B.nd _, fun y hy => B.keys y (del_mem.mp hy).2, fun y hy => B.vals y (del_mem.mp hy).2, fun i i1 i2 => ?_⟩
      have hb := B.byte i i1 i2
      show (look (del p.others (j : Int)) (i : Int)).getD (p.usual (i : Int)) = _
      rw [look_del]
      by_cases d : i = j
      · rw [if_pos (by omega), if_pos d, c, d]
        rfl
      · rw [if_neg (by omega), if_neg d]
        exact hb
    · rw [if_neg d]
      refine ⟨p, rfl, R, B.nd, B.keys, B.vals, fun i i1 i2 => ?_⟩
      have hb := B.byte i i1 i2
      by_cases e : i = j
      · rw [if_pos e, c, e]
        unfold MPiece.byte
        have : look p.others (j : Int) = none := by
          cases q : look p.others (j : Int) with
          | none => rfl
          | some v => rw [q] at d; exact absurd rfl d
        rw [this]
        rfl
      · rw [if_neg e]
        exact hb
def putF (at_ : Nat) (b : List Nat) (old : Nat → Nat) (j : Nat) : Nat := if at_ ≤ j ∧ j < at_ + b.length then b.getD (j - at_) 0 else old j
theorem putAll_bytes {g : Nat} {x : Sh30.Piece} (hw : x.total ≤ 2000000) : ∀ (b : List Nat) (at_ : Nat) (p : MPiece) (old : Nat → Nat), (∀ y ∈ b, y < 256) → PcRel g p x → PcBytes p x old → x.block ≤ at_ → at_ + b.length ≤ x.block + x.total →
    ∃ p', p.putAll (at_ : Int) (b.map fun (n : Nat) => (n : Int)) = some p' ∧ PcRel g p' x ∧ PcBytes p' x (putF at_ b old)
  | [], at_, p, old, hv, R, B, h1, h2 => ⟨p, rfl, R, B.congr fun j _ _ => by
      unfold putF
      rw [if_neg (by rw [List.length_nil]; omega)]⟩
  | v :: b, at_, p, old, hv, R, B, h1, h2 => by
    rw [List.length_cons] at h2
    obtain ⟨p1, q1, R1, B1⟩ := put_bytes R B hw (hv v List.mem_cons_self) h1 (show at_ < x.block + x.total by omega)
    obtain ⟨p2, q2, R2, B2⟩ := putAll_bytes hw b (at_ + 1) p1 _ (fun y hy => hv y (List.mem_cons_of_mem _ hy)) R1 B1 (by omega) (by omega)
    refine ⟨p2, ?_, R2, B2.congr fun j _ _ => ?_⟩
    · show (p.put (at_ : Int) (v : Int)).bind _ = _
      rw [q1, Option.bind_some]
      exact q2
    · unfold putF
      rw [List.length_cons]
      by_cases c : j = at_
      · rw [if_neg (by omega)]
        show (if j = at_ then v else old j) = _
        rw [if_pos c, if_pos (by omega), show j - at_ = 0 by omega]
        rfl
      · by_cases d : at_ + 1 ≤ j ∧ j < at_ + 1 + b.length
        · rw [if_pos d, if_pos (by omega), show j - at_ = (j - (at_ + 1)) + 1 by omega]
          rfl
        · rw [if_neg d]
          show (if j = at_ then v else old j) = _
          rw [if_neg c, if_neg (by omega)]
end GK
end
section
set_option linter.all false
set_option maxRecDepth 100000
namespace GK
/-- a call that asks nothing done alike -/
def AlikeP (r : Option (MHouse × List Int)) (p : Sh30.Prog Sh30.Ans) : Prop := ∃ h' s' t' F' a, r = some (h', a.value :: a.out) ∧ RelH h' s' t' F' ∧ p = .done (some s') a
section
variable {h : MHouse} {s : Sh30.State} {t : Kg46.State} {F : Nat → MPiece}
theorem in_mem {at_ : Int} {n : Nat} {x : Sh30.Piece} (h : s.inBlock at_ n = some x) : x ∈ s.pieces ∧ (x.block : Int) ≤ at_ ∧ at_ + n ≤ (x.block : Int) + x.total := by
  have h1 := List.find?_some h
  rw [Bool.and_eq_true, decide_eq_true_eq, decide_eq_true_eq] at h1
  exact ⟨List.mem_of_find?_eq_some h, h1.1, h1.2⟩
theorem writeC_sim (R : RelH h s t F) {at_ : Int} {b : List Nat} (hby : ∀ y ∈ b, y < 256) : AlikeP (h.write at_ (b.map fun (n : Nat) => (n : Int))) (Sh30.spec (some s) (.write at_ (some b))) := by
  have es : Sh30.spec (some s) (.write at_ (some b)) = if b = [] then .done (some s) (Sh30.num 0) else (match s.inBlock at_ b.length with
      | none => .done (some s) (Sh30.num (-5))
      | some _ => .done (some (Sh30.filled s at_.toNat b)) (Sh30.num 0)) := rfl
  rw [es]
  unfold MHouse.write
  by_cases c : b = []
  · rw [if_pos c, if_pos (by rw [c]; rfl)]
    exact ⟨h, s, t, F, Sh30.num 0, rfl, R, rfl⟩
  · rw [if_neg c, if_neg (fun q => c (List.map_eq_nil_iff.mp q)), List.length_map, R.with_ at_ b.length]
    cases hi : s.inBlock at_ b.length with
    | none => exact ⟨h, s, t, F, Sh30.num (-5), rfl, R, rfl⟩
    | some x =>
      obtain ⟨hx, i1, i2⟩ := in_mem hi
      obtain ⟨k, rfl⟩ : ∃ k : Nat, at_ = (k : Int) := ⟨at_.toNat, by omega⟩
      obtain ⟨p', q1, R1, B1⟩ := putAll_bytes (R.wide x hx) b k (F x.number) _ hby (R.rel x hx) (R.byt x hx) (by omega) (by omega)
      obtain ⟨t', e, Rb, e1, e2, hp⟩ := R.fill hx (at_ := k) (b := b) (by omega) (by omega) hby
      have hp' : byteH (some t') = putF k b (byteH s.blocks) := funext hp
      refine ⟨_, _, t', _, Sh30.num 0, ?_, R.bytes hx Rb e1 e2 (fun j hj => ?_) R1 (by rw [hp']; exact B1), ?_⟩
      · show ((F x.number).putAll (k : Int) _).map _ = _
        rw [q1]
        rfl
      · rw [hp j, if_neg (by omega)]
      · rw [Int.toNat_natCast]
        show Given.Prog.done (some (Sh30.filled s k b)) (Sh30.num 0) = _
        rw [e]
theorem readC_sim (R : RelH h s t F) {at_ n : Int} : AlikeP (some (h, h.read at_ n)) (Sh30.spec (some s) (.read at_ n)) := by
  have es : Sh30.spec (some s) (.read at_ n) = if Sh30.among n 0 4096 = false then .done (some s) (Sh30.num (-8)) else if n = 0 then .done (some s) (Sh30.num 0) else (match s.inBlock at_ n.toNat with
      | none => .done (some s) (Sh30.num (-5))
      | some _ => .done (some s) ⟨0, (Sh30.bytesAt s.blocks at_.toNat n.toNat).map fun (x : Nat) => (x : Int)⟩) := rfl
  rw [es]
  have em : h.read at_ n = if Sh30.among n 0 4096 = false then [-8] else if n = 0 then [0] else match pieceWith h.pieces at_ n with
    | none => [-5]
    | some p => 0 :: (List.range n.toNat).map fun (k : Nat) => p.2.byte (at_ + (k : Int)) := rfl
  rw [em]
  by_cases c : Sh30.among n 0 4096 = false
  · rw [if_pos c, if_pos c]
    exact ⟨h, s, t, F, Sh30.num (-8), rfl, R, rfl⟩
  · rw [if_neg c, if_neg c]
    by_cases d : n = 0
    · rw [if_pos d, if_pos d]
      exact ⟨h, s, t, F, Sh30.num 0, rfl, R, rfl⟩
    · rw [if_neg d, if_neg d]
      rw [Bool.not_eq_false] at c
      unfold Sh30.among at c
      rw [Bool.and_eq_true, decide_eq_true_eq, decide_eq_true_eq] at c
      obtain ⟨k, rfl⟩ : ∃ k : Nat, n = (k : Int) := ⟨n.toNat, by omega⟩
      rw [R.with_ at_ k, Int.toNat_natCast]
      cases hi : s.inBlock at_ k with
      | none => exact ⟨h, s, t, F, Sh30.num (-5), rfl, R, rfl⟩
      | some x =>
        obtain ⟨hx, i1, i2⟩ := in_mem hi
        obtain ⟨q, rfl⟩ : ∃ k : Nat, at_ = (k : Int) := ⟨at_.toNat, by omega⟩
        refine ⟨h, s, t, F, _, ?_, R, rfl⟩
        rw [Int.toNat_natCast]
        show some (h, 0 :: (List.range k).map fun (i : Nat) => (F x.number).byte ((q : Int) + (i : Int))) = some (h, 0 :: (Sh30.bytesAt s.blocks q k).map fun (x : Nat) => (x : Int))
        rw [R.reads hx q k (by omega) (by omega), List.map_map]
        congr 3
        refine List.map_congr_left fun i hi => ?_
        have := List.mem_range.mp hi
        exact (R.byt x hx).byte (q + i) (by omega) (by omega)
theorem state_eq {g : Nat} {p : MPiece} {x : Sh30.Piece} (R : PcRel g p x) : p.state = Sh30.flag x := by
  unfold MPiece.state Sh30.flag
  rw [R.held]
  cases x.lives <;> rfl
theorem toldC_sim (R : RelH h s t F) {p : Int} : AlikeP (some (h, h.told p)) (Sh30.spec (some s) (.told p)) := by
  have es : Sh30.spec (some s) (.told p) = if Sh30.isPlace p = false then .done (some s) (Sh30.num (-8)) else (match (s.liveAt p).orElse fun _ => s.heldAt p with
      | none => .done (some s) (Sh30.num (-5))
      | some x => .done (some s) ⟨x.number, [(x.size : Int), Sh30.flag x, x.who, (x.gone.getD (0, 0)).1]⟩) := rfl
  rw [es]
  have em : h.told p = if Sh30.isPlace p = false then [-8] else match pieceAt h.pieces p with
    | none => [-5]
    | some p => [p.2.number, p.2.size, p.2.state, p.2.who, p.2.giver] := rfl
  rw [em]
  by_cases c : Sh30.isPlace p = false
  · rw [if_pos c, if_pos c]
    exact ⟨h, s, t, F, Sh30.num (-8), rfl, R, rfl⟩
  · rw [if_neg c, if_neg c, R.at_ p]
    cases hi : (s.liveAt p).orElse fun _ => s.heldAt p with
    | none => exact ⟨h, s, t, F, Sh30.num (-5), rfl, R, rfl⟩
    | some x =>
      have hx : x ∈ s.pieces := by
        cases e : s.liveAt p with
        | some y =>
          rw [e] at hi
          have hi : some y = some x := hi
          cases hi
          exact (live_mem e).1
        | none =>
          rw [e] at hi
          exact (held_mem (show s.heldAt p = some x from hi)).1
      have P := R.rel x hx
      refine ⟨h, s, t, F, _, ?_, R, rfl⟩
      show some (h, [(F x.number).number, (F x.number).size, (F x.number).state, (F x.number).who, (F x.number).giver]) = _
      rw [P.number, P.size, state_eq P, P.who, P.giver]
theorem whoseC_sim (R : RelH h s t F) {p : Int} : AlikeP (some (h, h.whose p)) (Sh30.spec (some s) (.whose p)) := by
  have es : Sh30.spec (some s) (.whose p) = if Sh30.isPlace p = false then .done (some s) (Sh30.num (-8)) else (match s.inBlock p 1 with
      | none => .done (some s) (Sh30.num (-5))
      | some x => .done (some s) ⟨x.number, [(x.place : Int), p - (x.place : Int), x.size, Sh30.flag x]⟩) := rfl
  rw [es]
  have em : h.whose p = if Sh30.isPlace p = false then [-8] else match pieceWith h.pieces p ((1 : Nat) : Int) with
    | none => [-5]
    | some q => [q.2.number, q.2.place, p - q.2.place, q.2.size, q.2.state] := rfl
  rw [em]
  by_cases c : Sh30.isPlace p = false
  · rw [if_pos c, if_pos c]
    exact ⟨h, s, t, F, Sh30.num (-8), rfl, R, rfl⟩
  · rw [if_neg c, if_neg c, R.with_ p 1]
    cases hi : s.inBlock p 1 with
    | none => exact ⟨h, s, t, F, Sh30.num (-5), rfl, R, rfl⟩
    | some x =>
      obtain ⟨hx, _, _⟩ := in_mem hi
      have P := R.rel x hx
      refine ⟨h, s, t, F, _, ?_, R, rfl⟩
      show some (h, [(F x.number).number, (F x.number).place, p - (F x.number).place, (F x.number).size, (F x.number).state]) = _
      rw [P.number, P.size, state_eq P, P.place]
/-- the pieces' numbers, rising -/
theorem RelH.sorted (R : RelH h s t F) : isort (h.pieces.map (·.1)) = s.pieces.map fun x => (x.number : Int) := by
  symm
  refine isort_uniq (List.Perm.of_eq ?_) ?_
  · rw [R.pcs, List.map_map]
    rfl
  · have := R.num
    rw [List.pairwise_map] at this
    rw [List.pairwise_map]
    exact this.imp fun h => by omega
theorem RelH.list (R : RelH h s t F) : ∀ l : List Sh30.Piece, (∀ x ∈ l, x ∈ s.pieces) → listL h.pieces (l.map fun x => (x.number : Int)) = some (l.flatMap fun p => [(p.place : Int), p.size, Sh30.flag p])
  | [], _ => rfl
  | x :: l, hl => by
    have hx := hl x List.mem_cons_self
    have P := R.rel x hx
    rw [List.map_cons]
    unfold listL
    rw [R.look hx, Option.bind_some, R.list l fun y hy => hl y (List.mem_cons_of_mem _ hy), Option.map_some, List.flatMap_cons, P.place, P.size, state_eq P]
theorem piecesC_sim (R : RelH h s t F) {low most : Int} : AlikeP ((h.listed low most).map fun x => (h, x)) (Sh30.spec (some s) (.pieces low most)) := by
  have es : Sh30.spec (some s) (.pieces low most) = if low < 0 ∨ Sh30.among most 0 1024 = false then .done (some s) (Sh30.num (-8)) else
      .done (some s) ⟨s.pieces.length, ((s.pieces.drop low.toNat).take most.toNat).flatMap fun p => [(p.place : Int), p.size, Sh30.flag p]⟩ := rfl
  rw [es]
  have em : h.listed low most = if low < 0 ∨ Sh30.among most 0 1024 = false then some [-8] else
  (listL h.pieces (((isort (h.pieces.map (·.1))).drop low.toNat).take most.toNat)).map fun xs => (h.pieces.length : Int) :: xs := rfl
  rw [em]
  by_cases c : low < 0 ∨ Sh30.among most 0 1024 = false
  · rw [if_pos c, if_pos c]
    exact ⟨h, s, t, F, Sh30.num (-8), rfl, R, rfl⟩
  · rw [if_neg c, if_neg c, R.sorted, ← List.map_drop, ← List.map_take, R.list _ fun x hx => List.mem_of_mem_drop (List.mem_of_mem_take hx)]
    refine ⟨h, s, t, F, _, ?_, R, rfl⟩
    show some (h, (h.pieces.length : Int) :: _) = some (h, (s.pieces.length : Int) :: _)
    rw [R.pcs, List.length_map]
theorem livings_eq (R : RelH h s t F) : livingOf h.pieces = s.living.map fun x => (x.number : Int) := by
  unfold livingOf
  rw [R.sorted, List.filter_map]
  refine congrArg _ (List.filter_congr fun x hx => ?_)
  show (match look h.pieces (x.number : Int) with
    | some p => !p.held
    | none => false) = x.lives
  rw [R.look hx]
  show (!(F x.number).held) = x.lives
  rw [(R.rel x hx).held, Bool.not_not]
theorem sumsC_sim (R : RelH h s t F) : AlikeP (h.sums.map fun x => (h, x)) (Sh30.spec (some s) .sums) := by
  have es : Sh30.spec (some s) .sums = .done (some s) ⟨0, [(s.living.length : Int), Sh30.sizes s.living, s.held.length, Sh30.sizes s.held] ++ (s.found.map fun (n : Nat) => (n : Int)) ++ (Sh30.still s.blocks .sums).2.out⟩ := rfl
  rw [es]
  have hg : ∀ g ∈ t.greats, 1 ≤ g.size := fun g hg => by
    have hm : blkG g ∈ allB t := List.mem_append_right _ (List.mem_map.mpr ⟨g, hg, rfl⟩)
    have := R.blk.mem_iff.mp (List.mem_map.mpr ⟨_, hm, rfl⟩)
    obtain ⟨x, hx, e⟩ := List.mem_map.mp this
    have e : (x.total : Int) = (g.size : Int) := congrArg Prod.snd e
    have h1 := (R.rel x hx).total
    have h2 := R.g1
    omega
  have hs := sums46 R.rb hg
  have hst : (Sh30.still s.blocks .sums).2.out = [(t.blocks.length : Int), (t.blocks.map Kg46.Block.size).sum, (t.blocks.map Kg46.Block.room).sum, ((t.smalls.map fun r => Kg46.runPages (Kg46.sizeAt r.kind) * Kg46.PAGE).sum + (t.greats.map fun g => g.pages * Kg46.PAGE).sum : Nat)] ++ (Kg46.still t.pages .sums).2.out := by
    rw [R.bl]
    rfl
  refine ⟨h, s, t, F, _, ?_, R, rfl⟩
  unfold MHouse.sums
  obtain ⟨hl, z, hk⟩ := R.kinds
  rw [livings_eq R, sizes_some R s.living fun x hx => ⟨x, (List.mem_filter.mp hx).1, rfl, rfl⟩, Option.bind_some, heldSizes_eq R, Option.bind_some, hs, Option.bind_some, Option.map_some, sizes_sum, List.length_map, wait_len R, hst, hk]
  rfl
end
end GK
end
section
set_option linter.all false
set_option maxRecDepth 100000
namespace GK
theorem lookAll_sim {f : Sh30.State → Nat → Sh30.Prog Sh30.Ans} : ∀ (l : List Sh30.Piece) (A : MAsks) (h : MHouse) (s : Sh30.State) (t : Kg46.State) (F : Nat → MPiece) (n : Nat), RelH h s t F → (∀ x ∈ l, x ∈ s.pieces) → (fin o30 A (Sh30.lookAll l s n f)).2.2.length ≤ LIM →
    ∃ A' h' s' t' F' ks v, lookL A h (l.map fun x => (x.number : Int)) = some (A', h', ks) ∧ RelH h' s' t' F' ∧ ks.sum = ((v : Nat) : Int) ∧ fin o30 A (Sh30.lookAll l s n f) = fin o30 A' (f s' (n + v))
  | [], A, h, s, t, F, n, R, hl, hb => ⟨A, h, s, t, F, [], 0, rfl, R, rfl, rfl⟩
  | x :: l, A, h, s, t, F, n, R, hl, hb => by
    obtain ⟨A1, ks, fo, t1, q1, R1, q3⟩ := look_sim (f := fun t k => Sh30.lookAll l t (n + k) f) R (hl x List.mem_cons_self) hb
    have q3 : fin o30 A (Sh30.lookAll (x :: l) s n f) = _ := q3
    rw [q3] at hb ⊢
    obtain ⟨A2, h2, s2, t2, F2, ks2, v, r1, R2, r2, r3⟩ := lookAll_sim l A1 _ _ t1 _ _ R1 (fun y hy => hl y (List.mem_cons_of_mem _ hy)) hb
    refine ⟨A2, h2, s2, t2, F2, ((Sh30.findsOf s x).length : Int) :: ks2, (Sh30.findsOf s x).length + v, ?_, R2, ?_, ?_⟩
    · rw [List.map_cons]
      unfold lookL
      rw [q1, Option.bind_some, r1, Option.map_some]
    · rw [List.sum_cons, r2]
      omega
    · rw [r3, Nat.add_assoc]
section
variable {h : MHouse} {s : Sh30.State} {t : Kg46.State} {F : Nat → MPiece}
theorem lookC_sim {A : MAsks} (R : RelH h s t F) (hb : (fin o30 A (Sh30.spec (some s) .look)).2.2.length ≤ LIM) : Alike A (h.look_ A) (Sh30.spec (some s) .look) := by
  obtain ⟨A', h', s', t', F', ks, v, q1, R', q2, q3⟩ := lookAll_sim (f := fun t n => .done (some t) (Sh30.num n)) s.pieces A h s t F 0 R (fun x hx => hx) hb
  refine ⟨A', h', s', t', F', Sh30.num ((0 + v : Nat) : Int), ?_, R', q3.trans (fin_done _ _ _ _)⟩
  unfold MHouse.look_
  rw [R.sorted, q1, Option.map_some, q2, Nat.zero_add]
  rfl
theorem letC_sim {A : MAsks} (R : RelH h s t F) (hb : (fin o30 A (Sh30.spec (some s) .let_)).2.2.length ≤ LIM) : Alike A (h.let_ A) (Sh30.spec (some s) .let_) := by
  obtain ⟨A', h', s', t', F', q1, R', q2⟩ := letAll_sim (f := fun t => .done (some t) (Sh30.num s.held.length)) s.held.length A h s t F R rfl hb
  refine ⟨A', h', s', t', F', Sh30.num (s.held.length : Int), ?_, R', q2.trans (fin_done _ _ _ _)⟩
  unfold MHouse.let_
  rw [wait_len R, q1]
  rfl
theorem tellLeft_sim {f : Sh30.State → Sh30.Prog Sh30.Ans} : ∀ (l : List Sh30.Piece) (A : MAsks) (h : MHouse) (s : Sh30.State) (t : Kg46.State) (F : Nat → MPiece), RelH h s t F → (∀ x ∈ l, x ∈ s.pieces) → (fin o30 A (Sh30.tellLeft l s f)).2.2.length ≤ LIM →
    ∃ A' h' s' t' F', leftL A h (l.map fun x => (x.number : Int)) = some (A', h') ∧ RelH h' s' t' F' ∧ fin o30 A (Sh30.tellLeft l s f) = fin o30 A' (f s')
  | [], A, h, s, t, F, R, hl, hb => ⟨A, h, s, t, F, rfl, R, rfl⟩
  | x :: l, A, h, s, t, F, R, hl, hb => by
    have hx := hl x List.mem_cons_self
    have P := R.rel x hx
    have eu : Sh30.tellLeft (x :: l) s f = Sh30.tell s 7 x.place (x.size : Nat) (x.number : Nat) x.who fun t => Sh30.tellLeft l t f := rfl
    rw [eu, fin_tell] at hb
    obtain ⟨ks, k1, k2⟩ := tell_sim (h := h) (s := s) (kind := 7) (place := x.place) (a := (x.size : Int)) (b := (x.number : Int)) (who := x.who) R.kinds (by decide) (by decide) (fin_room hb)
    obtain ⟨A', h', s', t', F', q1, R', q2⟩ := tellLeft_sim l _ { h with kinds := ks } _ t F (R.newKinds k2) (fun y hy => hl y (List.mem_cons_of_mem _ hy)) hb
    refine ⟨A', h', s', t', F', ?_, R', ?_⟩
    · rw [List.map_cons]
      unfold leftL
      rw [R.look hx, Option.bind_some, P.place, P.size, P.number, P.who]
      have k1 : h.tell A 7 (x.place : Int) (x.size : Int) (x.number : Int) (x.who : Int) = _ := k1
      rw [k1, Option.bind_some]
      exact q1
    · rw [eu, fin_tell]
      exact q2
theorem leftC_sim {A : MAsks} (R : RelH h s t F) (hb : (fin o30 A (Sh30.spec (some s) .left)).2.2.length ≤ LIM) : Alike A (h.left A) (Sh30.spec (some s) .left) := by
  obtain ⟨A', h', s', t', F', q1, R', q2⟩ := tellLeft_sim (f := fun t => .done (some t) (Sh30.num s.living.length)) s.living A h s t F R (fun x hx => (List.mem_filter.mp hx).1) hb
  refine ⟨A', h', s', t', F', Sh30.num (s.living.length : Int), ?_, R', q2.trans (fin_done _ _ _ _)⟩
  unfold MHouse.left
  rw [livings_eq R, q1, List.length_map]
  rfl
end
end GK
end
section
set_option linter.all false
set_option maxRecDepth 100000
namespace GK
/-- bytes as another piece's others tell them -/
def cpF (a b m : Nat) (l : List (Int × Int)) (cur : Nat → Nat) (j : Nat) : Nat := if b ≤ j ∧ j < b + m then ((look l ((a + (j - b) : Nat) : Int)).map Int.toNat).getD (cur j) else cur j
theorem copyL_bytes {g g' : Nat} {o : MPiece} {xo x : Sh30.Piece} (Ro : PcRel g' o xo) (hw : x.total ≤ 2000000) : ∀ (l : List (Int × Int)) (p : MPiece) (cur : Nat → Nat), (l.map (·.1)).Nodup → (∀ y ∈ l, 0 ≤ y.1 ∧ 0 ≤ y.2 ∧ y.2 < 256) → PcRel g p x → PcBytes p x cur →
    ∃ p', MPiece.copyL o p l = some p' ∧ PcRel g p' x ∧ PcBytes p' x (cpF xo.place x.place (min xo.size x.size) l cur)
  | [], p, cur, _, _, R, B => ⟨p, rfl, R, B.congr fun j _ _ => by
      unfold cpF
      rw [look_nil]
      split <;> rfl⟩
  | (k, v) :: l, p, cur, hn, hv, R, B => by
    rw [List.map_cons, List.nodup_cons] at hn
    obtain ⟨hk, hv0, hv1⟩ := hv _ List.mem_cons_self
    have hl : look l k = none := key_none_look hn.1
    have ih := copyL_bytes (g := g) (x := x) Ro hw l
    obtain ⟨k, rfl⟩ : ∃ i : Nat, k = (i : Int) := ⟨k.toNat, by
      have : (0 : Int) ≤ k := hk
      omega⟩
    obtain ⟨v, rfl⟩ : ∃ i : Nat, v = (i : Int) := ⟨v.toNat, by
      have : (0 : Int) ≤ v := hv0
      omega⟩
    have hT := R.total
    have hf := R.front
    unfold MPiece.copyL
    by_cases c : (xo.place ≤ k ∧ k < xo.place + xo.size) ∧ k < xo.place + x.size
    · have c1 : o.isOwn (k : Int) = true := (own_iff Ro k).mpr (by
        unfold Sh30.Piece.end_
        exact c.1)
      obtain ⟨p1, q1, R1, B1⟩ := put_bytes R B hw (j := x.place + (k - xo.place)) (v := v) (by have : (v : Int) < 256 := hv1; omega) (by omega) (by omega)
      obtain ⟨p2, q2, R2, B2⟩ := ih p1 _ hn.2 (fun y hy => hv y (List.mem_cons_of_mem _ hy)) R1 B1
      refine ⟨p2, ?_, R2, B2.congr fun j _ _ => ?_⟩
      · show (if o.isOwn (k : Int) = true ∧ (k : Int) - o.place < p.size then (p.put (p.place + (k : Int) - o.place) (v : Int)).bind fun p1 => MPiece.copyL o p1 l else _) = _
        rw [if_pos ⟨c1, by rw [Ro.place, R.size]; omega⟩, show p.place + (k : Int) - o.place = ((x.place + (k - xo.place) : Nat) : Int) by rw [R.place, Ro.place]; omega, q1, Option.bind_some]
        exact q2
      · unfold cpF
        by_cases d : x.place ≤ j ∧ j < x.place + min xo.size x.size
        · rw [if_pos d, if_pos d]
          by_cases e : j = x.place + (k - xo.place)
          · have e2 : xo.place + (j - x.place) = k := by omega
            rw [e2, hl, look_cons_eq _ _ rfl]
            show (if j = x.place + (k - xo.place) then v else cur j) = (v : Int).toNat
            rw [if_pos e, Int.toNat_natCast]
          · rw [look_cons_ne _ _ (by show (k : Int) ≠ _; omega)]
            congr 1
            show (if j = x.place + (k - xo.place) then v else cur j) = _
            rw [if_neg e]
        · rw [if_neg d, if_neg d]
          show (if j = x.place + (k - xo.place) then v else cur j) = _
          rw [if_neg (by omega)]
    · obtain ⟨p2, q2, R2, B2⟩ := ih p cur hn.2 (fun y hy => hv y (List.mem_cons_of_mem _ hy)) R B
      refine ⟨p2, ?_, R2, B2.congr fun j _ _ => ?_⟩
      · show (if o.isOwn (k : Int) = true ∧ (k : Int) - o.place < p.size then _ else MPiece.copyL o p l) = _
        rw [if_neg fun q => c ⟨by
          have := (own_iff Ro k).mp q.1
          unfold Sh30.Piece.end_ at this
          exact this, by
          have := q.2
          rw [Ro.place, R.size] at this
          omega⟩]
        exact q2
      · unfold cpF
        by_cases d : x.place ≤ j ∧ j < x.place + min xo.size x.size
        · rw [if_pos d, if_pos d, look_cons_ne _ _ (by show (k : Int) ≠ _; omega)]
        · rw [if_neg d, if_neg d]
theorem PcBytes.low {g : Nat} {p : MPiece} {x : Sh30.Piece} {old : Nat → Nat} (R : PcRel g p x) (B : PcBytes p x old) {j : Nat} (h1 : x.block ≤ j) (h2 : j < x.block + x.total) : old j < 256 := by
  have hb := B.byte j h1 h2
  unfold MPiece.byte at hb
  cases e : look p.others (j : Int) with
  | some v =>
    rw [e] at hb
    have hb : v = (old j : Int) := hb
    have := (B.vals _ (look_mem' e)).2
    have : v < 256 := this
    omega
  | none =>
    rw [e] at hb
    have hb : p.usual (j : Int) = (old j : Int) := hb
    by_cases c : x.place ≤ j ∧ j < x.end_
    · rw [usual_own R c] at hb
      split at hb <;> omega
    · rw [usual_guard R c] at hb
      unfold Sh30.guardByte at hb
      omega
theorem PcBytes.vals0 {p : MPiece} {x : Sh30.Piece} {old : Nat → Nat} (B : PcBytes p x old) : ∀ y ∈ p.others, 0 ≤ y.1 ∧ 0 ≤ y.2 ∧ y.2 < 256 := fun y hy => by
  obtain ⟨k1, k2⟩ := B.keys y hy
  obtain ⟨j, ej⟩ : ∃ i : Nat, y.1 = (i : Int) := ⟨y.1.toNat, by omega⟩
  have hb := B.byte j (by omega) (by omega)
  have hl : look p.others (j : Int) = some y.2 := by
    rw [← ej]
    exact look_of_mem B.nd hy
  unfold MPiece.byte at hb
  rw [hl] at hb
  have hb : y.2 = (old j : Int) := hb
  exact ⟨by omega, by omega, (B.vals y hy).2⟩
theorem resizeC_sim {A : MAsks} {h : MHouse} {s : Sh30.State} {t : Kg46.State} {F : Nat → MPiece} (R : RelH h s t F) {p n w : Int} (hb : (fin o30 A (Sh30.spec (some s) (.resize p n w))).2.2.length ≤ LIM) : Alike A (h.resize A p n w) (Sh30.spec (some s) (.resize p n w)) := by
  have es : Sh30.spec (some s) (.resize p n w) = if (Sh30.isPlace p && (Sh30.among n 0 Sh30.BIG && Sh30.isWho w)) = false then .done (some s) (Sh30.num (-8)) else (match s.liveAt p with
      | none => Sh30.noneThere s p w.toNat
      | some x => if Sh30.MANY ≤ s.pieces.length then .done (some s) (Sh30.num (-6)) else
        Sh30.take s n.toNat 4 w.toNat fun t q => match q with
          | none => .done (some t) (Sh30.num (-7))
          | some k => Sh30.give (Sh30.filled t k (Sh30.bytesAt s.blocks x.place (min x.size n.toNat))) x w.toNat fun u => .done (some u) (Sh30.num k)) := rfl
  have em : h.resize A p n w = if (Sh30.isPlace p && (Sh30.among n 0 Sh30.BIG && Sh30.isWho w)) = false then some (A, h, [-8]) else match livingAt h.pieces p with
  | none => h.noPiece A p w
  | some p => if (h.pieces.length : Int) = 65536 then some (A, h, [-6]) else (h.newPiece A n ((2 ^ 4 : Nat) : Int) w).bind fun x => match x.2.2 with
    | none => some (x.1, x.2.1, [-7])
    | some n => (look x.2.1.pieces n).bind fun o => (look x.2.1.pieces p.1).bind fun p1 => if n = p.1 then none else (o.copyFrom p1).bind fun o1 => ({ x.2.1 with pieces := put x.2.1.pieces n o1 }.giveUp x.1 p.1 w).bind fun y => (y.2.find n).map fun (o2 : MPiece) => (y.1, y.2, [o2.place]) := rfl
  rw [es] at hb ⊢
  rw [em]
  have hlen : h.pieces.length = s.pieces.length := by rw [R.pcs, List.length_map]
  by_cases c : (Sh30.isPlace p && (Sh30.among n 0 Sh30.BIG && Sh30.isWho w)) = false
  · rw [if_pos c, if_pos c]
    exact ⟨A, h, s, t, F, Sh30.num (-8), rfl, R, fin_done _ _ _ _⟩
  · rw [if_neg c] at hb ⊢
    rw [if_neg c]
    rw [Bool.not_eq_false] at c
    unfold Sh30.isWho Sh30.isPlace Sh30.among Sh30.BIG at c
    simp only [Bool.and_eq_true, decide_eq_true_eq] at c
    obtain ⟨n, rfl⟩ : ∃ u : Nat, n = (u : Int) := ⟨n.toNat, by omega⟩
    obtain ⟨w, rfl⟩ : ∃ u : Nat, w = (u : Int) := ⟨w.toNat, by omega⟩
    rw [Int.toNat_natCast, Int.toNat_natCast] at hb ⊢
    rw [R.living p]
    cases hl : s.liveAt p with
    | none =>
      rw [hl] at hb
      exact noneThere_sim R c.1.1 hl hb
    | some x =>
      rw [hl] at hb
      obtain ⟨hx, l1, l2⟩ := live_mem hl
      have P := R.rel x hx
      have hb : (fin o30 A (if Sh30.MANY ≤ s.pieces.length then .done (some s) (Sh30.num (-6)) else
        Sh30.take s n 4 w fun t q => match q with
          | none => .done (some t) (Sh30.num (-7))
          | some k => Sh30.give (Sh30.filled t k (Sh30.bytesAt s.blocks x.place (min x.size n))) x w fun u => .done (some u) (Sh30.num k))).2.2.length ≤ LIM := hb
      show Alike A (if (h.pieces.length : Int) = 65536 then _ else _) (if Sh30.MANY ≤ s.pieces.length then _ else _)
      by_cases d : Sh30.MANY ≤ s.pieces.length
      · have : s.pieces.length ≤ 65536 := R.many
        have : 65536 ≤ s.pieces.length := d
        rw [if_pos d, if_pos (by omega)]
        exact ⟨A, h, s, t, F, Sh30.num (-6), rfl, R, fin_done _ _ _ _⟩
      · have d' : ¬ 65536 ≤ s.pieces.length := d
        rw [if_neg d] at hb ⊢
        rw [if_neg (by omega)]
        obtain ⟨A', h', s', t', F', R', ⟨q1, q2⟩ | ⟨b, q1, q2, q3, q4⟩⟩ := newPiece_sim R (n := n) (e := 4) (who := w) (by omega) (by omega) (by omega) (by omega) hb
        · rw [q1]
          exact ⟨A', h', s', t', F', Sh30.num (-7), rfl, R', q2.trans (fin_done _ _ _ _)⟩
        · rw [q1, Option.bind_some]
          rw [q2] at hb
          have hne : x.number ≠ s.next := by
            have := R.lt x hx
            omega
          have hm : newX s.next b (frontN s.guard 4) n s.guard w ∈ s'.pieces := by
            rw [q3]
            exact List.mem_append_right _ List.mem_cons_self
          have hx' : x ∈ s'.pieces := by
            rw [q3]
            exact List.mem_append_left _ hx
          have f1 : F' s.next = newP s.next b (frontN s.guard 4) n s.guard w := by
            rw [q4]
            exact if_pos rfl
          have f2 : F' x.number = F x.number := by
            rw [q4]
            exact if_neg hne
          have k1 : look h'.pieces (s.next : Int) = some (newP s.next b (frontN s.guard 4) n s.guard w) := by
            rw [← f1]
            exact R'.look hm
          have k2 : look h'.pieces (x.number : Int) = some (F x.number) := by
            rw [← f2]
            exact R'.look hx'
          have Rn := R'.rel _ hm
          have Bn := R'.byt _ hm
          rw [show (newX s.next b (frontN s.guard 4) n s.guard w).number = s.next from rfl, f1] at Rn Bn
          have Bx := R.byt x hx
          obtain ⟨o1, c1, Ro1, Bo1⟩ := copyL_bytes (g := s'.guard) (x := newX s.next b (frontN s.guard 4) n s.guard w) P (R'.wide _ hm) (F x.number).others (newP s.next b (frontN s.guard 4) n s.guard w) _ Bx.nd Bx.vals0 Rn Bn
          have hfp := P.front
          have htp := P.total
          have hold : Sh30.bytesAt s.blocks x.place (min x.size n) = (List.range (min x.size n)).map fun j => byteH s.blocks (x.place + j) := R.reads hx x.place _ hfp (by omega)
          have hll : (Sh30.bytesAt s.blocks x.place (min x.size n)).length = min x.size n := by rw [hold, List.length_map, List.length_range]
          have hlt : ∀ y ∈ Sh30.bytesAt s.blocks x.place (min x.size n), y < 256 := fun y hy => by
            rw [hold] at hy
            obtain ⟨i, hi, rfl⟩ := List.mem_map.mp hy
            have := List.mem_range.mp hi
            exact Bx.low P (by omega) (by omega)
          obtain ⟨t2, e, Rb, e1, e2, hp⟩ := R'.fill hm (at_ := b + frontN s.guard 4) (b := Sh30.bytesAt s.blocks x.place (min x.size n)) (Nat.le_add_right _ _) (by
            rw [hll]
            show b + frontN s.guard 4 + min x.size n ≤ b + (frontN s.guard 4 + n + s.guard)
            omega) hlt
          have Bo2 : PcBytes o1 (newX s.next b (frontN s.guard 4) n s.guard w) (byteH (some t2)) := Bo1.congr fun j j1 j2 => by
            rw [hp j, hll]
            unfold cpF
            show (if b + frontN s.guard 4 ≤ j ∧ j < b + frontN s.guard 4 + min x.size n then ((look (F x.number).others ((x.place + (j - (b + frontN s.guard 4)) : Nat) : Int)).map Int.toNat).getD (byteH s'.blocks j) else byteH s'.blocks j) = _
            by_cases cj : b + frontN s.guard 4 ≤ j ∧ j < b + frontN s.guard 4 + min x.size n
            · rw [if_pos cj, if_pos cj, hold, List.getD_eq_getElem?_getD, List.getElem?_map, List.getElem?_range (by omega)]
              show _ = byteH s.blocks (x.place + (j - (b + frontN s.guard 4)))
              have hby := Bx.byte (x.place + (j - (b + frontN s.guard 4))) (by omega) (by omega)
              unfold MPiece.byte at hby
              cases ev : look (F x.number).others ((x.place + (j - (b + frontN s.guard 4)) : Nat) : Int) with
              | some v =>
                rw [ev] at hby
                have hby : v = _ := hby
                show v.toNat = _
                rw [hby, Int.toNat_natCast]
              | none =>
                rw [ev, usual_own P (by unfold Sh30.Piece.end_; omega), l1] at hby
                have hby : (205 : Int) = (byteH s.blocks (x.place + (j - (b + frontN s.guard 4))) : Int) := hby
                show byteH s'.blocks j = _
                have hbn := Bn.byte j j1 j2
                have hu : (newP s.next b (frontN s.guard 4) n s.guard w).byte (j : Int) = (newP s.next b (frontN s.guard 4) n s.guard w).usual (j : Int) := rfl
                rw [hu, usual_own Rn (by
                  show b + frontN s.guard 4 ≤ j ∧ j < b + frontN s.guard 4 + n
                  omega)] at hbn
                have hbn : (205 : Int) = (byteH s'.blocks j : Int) := hbn
                omega
            · rw [if_neg cj, if_neg cj]
          have R2 := R'.bytes hm Rb e1 e2 (fun j hj => by
            rw [hp j, hll]
            rw [if_neg (fun q => hj ⟨by show b ≤ j; omega, by show j < b + (frontN s.guard 4 + n + s.guard); omega⟩)]) Ro1 Bo2
          have hb : (fin o30 A' (Sh30.give (Sh30.filled s' (b + frontN s.guard 4) (Sh30.bytesAt s.blocks x.place (min x.size n))) x w fun u => .done (some u) (Sh30.num ((b + frontN s.guard 4 : Nat) : Int)))).2.2.length ≤ LIM := hb
          rw [e] at hb
          obtain ⟨A3, h3, s3, t3, F3, r1, R3, r2, r3⟩ := giveUp_sim (f := fun u => .done (some u) (Sh30.num ((b + frontN s.guard 4 : Nat) : Int))) R2 hx' l1 hb
          obtain ⟨p', p1, p2, p3⟩ := r2 (s.next : Int) o1 (by
            unfold MHouse.find
            show look (put h'.pieces (s.next : Int) o1 ++ h'.dead) (s.next : Int) = some o1
            rw [look_append, look_put k1, if_pos rfl]
            rfl)
          refine ⟨A3, h3, s3, t3, F3, Sh30.num ((b + frontN s.guard 4 : Nat) : Int), ?_, R3, ?_⟩
          · show ((look h'.pieces (s.next : Int)).bind fun o => (look h'.pieces (x.number : Int)).bind fun p1 => if (s.next : Int) = (x.number : Int) then none else (o.copyFrom p1).bind fun o1 => (MHouse.giveUp A' { h' with pieces := put h'.pieces (s.next : Int) o1 } (x.number : Int) (w : Int)).bind fun y => (y.2.find (s.next : Int)).map fun (o2 : MPiece) => (y.1, y.2, [o2.place])) = _
            rw [k1, Option.bind_some, k2, Option.bind_some, if_neg (by omega)]
            show ((MPiece.copyL (F x.number) (newP s.next b (frontN s.guard 4) n s.guard w) (F x.number).others).bind _) = _
            rw [c1, Option.bind_some]
            have r1 : MHouse.giveUp A' { h' with pieces := put h'.pieces (s.next : Int) o1 } (x.number : Int) (w : Int) = some (A3, h3) := r1
            rw [r1, Option.bind_some, p1, Option.map_some, p3, Ro1.place]
            rfl
          · rw [q2]
            show fin o30 A' (Sh30.give (Sh30.filled s' (b + frontN s.guard 4) (Sh30.bytesAt s.blocks x.place (min x.size n))) x w fun u => .done (some u) (Sh30.num ((b + frontN s.guard 4 : Nat) : Int))) = _
            rw [e]
            exact r3.trans (fin_done _ _ _ _)
end GK
end
section
set_option linter.all false
set_option maxRecDepth 100000
namespace GK
/-- a house or none -/
def RelO : Option MHouse → Sh30.House → Prop
  | none, none => True
  | some h, some s => ∃ t F, RelH h s t F
  | _, _ => False
def AlikeO (A : MAsks) (r : Option (MAsks × Option MHouse × List Int)) (s : Sh30.House) (p : Sh30.Prog Sh30.Ans) : Prop := ∃ A' h' s' a, r = some (A', h', a.value :: a.out) ∧ RelO h' s' ∧ (s.isSome = true → s'.isSome = true) ∧ fin o30 A p = (s', a, A'.rows)
theorem new_house {size chunk spare guard hold : Nat} (h1 : size ≤ 16384) (h2 : chunk ≤ 1024) (h3 : 16 ≤ guard) (h4 : guard ≤ 4096) : RelO (some (MHouse.new (size : Int) (chunk : Int) (spare : Int) (guard : Int) (hold : Int))) (some ⟨some ⟨some (Kg45.fresh size chunk spare), [], []⟩, guard, hold, [], 0, 0, List.replicate 7 0⟩) := by
  refine ⟨⟨some (Kg45.fresh size chunk spare), [], []⟩, fun _ => ⟨0, 0, 0, 0, 0, 0, false, 0, []⟩, rfl, ⟨⟨_, rfl, new_rel size chunk spare h1 h2, List.Perm.refl _⟩, rfl, List.Perm.refl _, fun r hr => (List.not_mem_nil hr).elim, fun r hr => (List.not_mem_nil hr).elim⟩, rfl, h3, h4, rfl, rfl, rfl, fun x hx => (List.not_mem_nil hx).elim, fun x hx => (List.not_mem_nil hx).elim, List.Pairwise.nil, fun x hx => (List.not_mem_nil hx).elim, fun x hx => (List.not_mem_nil hx).elim, List.Perm.refl _, ⟨[], rfl, List.Perm.refl _, List.Pairwise.nil, fun x hx => (List.not_mem_nil hx).elim⟩, ⟨rfl, 0, rfl⟩, fun x hx => (List.not_mem_nil hx).elim, fun x hx => (List.not_mem_nil hx).elim, ?_⟩
  show 0 ≤ 65536
  exact Nat.zero_le _
theorem begin45 (h : Kg45.House) {size chunk spare : Nat} (h0 : 1 ≤ size) (h1 : size ≤ 16384) (h2 : 1 ≤ chunk) (h3 : chunk ≤ 1024) (h4 : spare ≤ 16384) : Kg45.spec h (.begin_ (size : Int) (chunk : Int) (spare : Int)) = Kg45.backAll ((h.map Kg45.State.rows).getD []) h (.done (some (Kg45.fresh size chunk spare)) (Kg45.num 0)) := by
  show (if (Kg45.within (size : Int) 1 16384 && (Kg45.within (chunk : Int) 1 1024 && Kg45.within (spare : Int) 0 16384)) = false then _ else Kg45.backAll _ _ (.done (some (Kg45.fresh (size : Int).toNat (chunk : Int).toNat (spare : Int).toNat)) (Kg45.num 0))) = _
  rw [if_neg (by
    unfold Kg45.within
    simp only [Bool.not_eq_false, Bool.and_eq_true, decide_eq_true_eq]
    omega), Int.toNat_natCast, Int.toNat_natCast, Int.toNat_natCast]
theorem begin46_none {size chunk spare : Nat} (h0 : 1 ≤ size) (h1 : size ≤ 16384) (h2 : 1 ≤ chunk) (h3 : chunk ≤ 1024) (h4 : spare ≤ 16384) : Kg46.spec none (.begin_ (size : Int) (chunk : Int) (spare : Int)) = .done (some ⟨some (Kg45.fresh size chunk spare), [], []⟩) (Kg46.num 0) := by
  show (Given.Prog.within _ _ id none (Kg45.spec none (.begin_ (size : Int) (chunk : Int) (spare : Int)))).andThen _ = _
  rw [begin45 none h0 h1 h2 h3 h4]
  show (if (0 : Int) < 0 then Given.Prog.done none (Kg46.num 0) else Given.Prog.done (some (⟨some (Kg45.fresh (size : Int).toNat (chunk : Int).toNat (spare : Int).toNat), [], []⟩ : Kg46.State)) (Kg46.num 0)) = _
  rw [if_neg (by decide), Int.toNat_natCast, Int.toNat_natCast, Int.toNat_natCast]
theorem begin46_some {A : MAsks} {t : Kg46.State} {s : Kg45.State} {m : MPages} (es : t.pages = some s) (R : RelP m s) {size chunk spare : Nat} (h0 : 1 ≤ size) (h1 : size ≤ 16384) (h2 : 1 ≤ chunk) (h3 : chunk ≤ 1024) (h4 : spare ≤ 16384)
    (hb : (fin o45 A (Kg46.spec (some t) (.begin_ (size : Int) (chunk : Int) (spare : Int)))).2.2.length ≤ LIM) :
    ∃ A', m.giveBack A = some A' ∧ A'.ans = A.ans ∧ fin o45 A (Kg46.spec (some t) (.begin_ (size : Int) (chunk : Int) (spare : Int))) = (some ⟨some (Kg45.fresh size chunk spare), [], []⟩, Kg46.num 0, A'.rows) := by
  have e : Kg46.spec (some t) (.begin_ (size : Int) (chunk : Int) (spare : Int)) = (Given.Prog.within (fun (h : Kg46.House) (p : Kg45.House) => h.map fun t => { t with pages := p }) (fun (h : Kg46.House) => h.bind Kg46.State.pages) id (some t) (Kg45.backAll s.rows (some s) (.done (some (Kg45.fresh size chunk spare)) (Kg45.num 0)))).andThen fun _ a =>
      if a.value < 0 then .done (some t) (Kg46.num a.value) else .done (some ⟨some (Kg45.fresh size chunk spare), [], []⟩) (Kg46.num 0) := by
    show (Given.Prog.within _ _ id (some t) (Kg45.spec t.pages (.begin_ (size : Int) (chunk : Int) (spare : Int)))).andThen _ = _
    rw [begin45 t.pages h0 h1 h2 h3 h4, es]
    show (Given.Prog.within _ _ id (some t) (Kg45.backAll s.rows (some s) (.done (some (Kg45.fresh size chunk spare)) (Kg45.num 0)))).andThen (fun _ a =>
      if a.value < 0 then .done (some t) (Kg46.num a.value) else .done (some ⟨some (Kg45.fresh (size : Int).toNat (chunk : Int).toNat (spare : Int).toNat), [], []⟩) (Kg46.num 0)) = _
    rw [Int.toNat_natCast, Int.toNat_natCast, Int.toNat_natCast]
  rw [e, fin_andThen, fin_within (out := o45) (out' := o45) (name := id) (fun q => rfl) (fun b p => by
    funext p2
    cases b with
    | none => rfl
    | some t => rfl) _ A (some t) (fun p => rfl)] at hb ⊢
  obtain ⟨A', q1, q2, q3⟩ := back_sim (.done (some (Kg45.fresh size chunk spare)) (Kg45.num 0)) s.rows A (some s) trivial Kg45.backAll (fun _ _ => rfl) (fun _ _ _ _ => rfl) (Nat.le_trans (fin_len o45 ⟨A.ans, _⟩ _) hb)
  refine ⟨A', ?_, q2, ?_⟩
  · unfold MPages.giveBack
    rw [rows_own R]
    exact q1
  · rw [q3, fin_done]
    show fin o45 ⟨A.ans, A'.rows⟩ (if (0 : Int) < 0 then _ else _) = _
    rw [if_neg (by decide), fin_done]
theorem begin_sim {A : MAsks} {h : Option MHouse} {s : Sh30.House} (R : RelO h s) {size chunk spare guard hold : Int} (hb : (fin o30 A (Sh30.spec s (.begin_ size chunk spare guard hold))).2.2.length ≤ LIM) : AlikeO A (begun A h [size, chunk, spare, guard, hold]) s (Sh30.spec s (.begin_ size chunk spare guard hold)) := by
  have es : Sh30.spec s (.begin_ size chunk spare guard hold) = if (Sh30.among size 1 16384 && (Sh30.among chunk 1 1024 && (Sh30.among spare 0 16384 && (Sh30.among guard 16 4096 && (guard % 16 == 0 && Sh30.among hold 0 16777216))))) = false then .done s (Sh30.num (-8)) else
      Sh30.lower (s.getD ⟨none, 0, 0, [], 0, 0, []⟩) (.begin_ size chunk spare) fun u _ => .done (some ⟨u.blocks, guard.toNat, hold.toNat, [], 0, 0, List.replicate 7 0⟩) (Sh30.num 0) := rfl
  have em : begun A h [size, chunk, spare, guard, hold] = if (Sh30.among size 1 16384 && (Sh30.among chunk 1 1024 && (Sh30.among spare 0 16384 && (Sh30.among guard 16 4096 && (guard % 16 == 0 && Sh30.among hold 0 16777216))))) = false then some (A, h, [-8]) else (match h with
      | none => some A
      | some x => x.bl.pg.giveBack A).map fun A1 => (A1, some (MHouse.new size chunk spare guard hold), [0]) := rfl
  rw [es] at hb ⊢
  rw [em]
  by_cases c : (Sh30.among size 1 16384 && (Sh30.among chunk 1 1024 && (Sh30.among spare 0 16384 && (Sh30.among guard 16 4096 && (guard % 16 == 0 && Sh30.among hold 0 16777216))))) = false
  · rw [if_pos c, if_pos c]
    exact ⟨A, h, s, Sh30.num (-8), rfl, R, fun q => q, fin_done _ _ _ _⟩
  · rw [if_neg c] at hb ⊢
    rw [if_neg c]
    rw [Bool.not_eq_false] at c
    unfold Sh30.among at c
    simp only [Bool.and_eq_true, decide_eq_true_eq] at c
    obtain ⟨size, rfl⟩ : ∃ u : Nat, size = (u : Int) := ⟨size.toNat, by omega⟩
    obtain ⟨chunk, rfl⟩ : ∃ u : Nat, chunk = (u : Int) := ⟨chunk.toNat, by omega⟩
    obtain ⟨spare, rfl⟩ : ∃ u : Nat, spare = (u : Int) := ⟨spare.toNat, by omega⟩
    obtain ⟨guard, rfl⟩ : ∃ u : Nat, guard = (u : Int) := ⟨guard.toNat, by omega⟩
    obtain ⟨hold, rfl⟩ : ∃ u : Nat, hold = (u : Int) := ⟨hold.toNat, by omega⟩
    have hN := new_house (size := size) (chunk := chunk) (spare := spare) (guard := guard) (hold := hold) (by omega) (by omega) (by omega) (by omega)
    have hb1 := fin_lower_len hb
    rw [Int.toNat_natCast, Int.toNat_natCast]
    match h, s, R with
    | none, none, _ =>
      have e := begin46_none (size := size) (chunk := chunk) (spare := spare) (by omega) (by omega) (by omega) (by omega) (by omega)
      refine ⟨A, _, _, Sh30.num 0, rfl, hN, fun _ => rfl, ?_⟩
      rw [fin_lower]
      show fin o30 ⟨A.ans, (fin o45 A (Kg46.spec none (.begin_ (size : Int) (chunk : Int) (spare : Int)))).2.2⟩ (Given.Prog.done (some (⟨(fin o45 A (Kg46.spec none (.begin_ (size : Int) (chunk : Int) (spare : Int)))).1, guard, hold, [], 0, 0, List.replicate 7 0⟩ : Sh30.State)) (Sh30.num 0) : Sh30.Prog Sh30.Ans) = _
      rw [e, fin_done, fin_done]
    | some h, some s, R =>
      obtain ⟨t, F, R⟩ := R
      obtain ⟨s45, es, RP, _⟩ := R.rb.pg
      have hb1 : (fin o45 A (Kg46.spec s.blocks (.begin_ (size : Int) (chunk : Int) (spare : Int)))).2.2.length ≤ LIM := hb1
      rw [R.bl] at hb1
      obtain ⟨A', q1, q2, q3⟩ := begin46_some es RP (by omega) (by omega) (by omega) (by omega) (by omega) hb1
      refine ⟨A', _, _, Sh30.num 0, ?_, hN, fun _ => rfl, ?_⟩
      · show (h.bl.pg.giveBack A).map _ = _
        rw [q1]
        rfl
      · rw [fin_lower]
        show fin o30 ⟨A.ans, (fin o45 A (Kg46.spec s.blocks (.begin_ (size : Int) (chunk : Int) (spare : Int)))).2.2⟩ (Given.Prog.done (some (⟨(fin o45 A (Kg46.spec s.blocks (.begin_ (size : Int) (chunk : Int) (spare : Int)))).1, guard, hold, [], 0, 0, List.replicate 7 0⟩ : Sh30.State)) (Sh30.num 0) : Sh30.Prog Sh30.Ans) = _
        rw [R.bl, q3, fin_done]
end GK
end
section
set_option linter.all false
set_option maxRecDepth 100000
namespace GK
/-! ### the calls as they are handed in -/
abbrev u64 (x : Int) : Nat := Sh30Neutral.unsigned 64 x
def In64 (x : Int) : Prop := -9223372036854775808 ≤ x ∧ x ≤ 9223372036854775807
theorem in64_of {x : Int} (h : NeutralIO.within x (-9223372036854775808) 9223372036854775807 = true) : In64 x := by
  unfold NeutralIO.within at h
  rw [Bool.and_eq_true, decide_eq_true_eq, decide_eq_true_eq] at h
  exact h
theorem i64_u64 {x : Int} (h : In64 x) : Sh30Neutral.i64 (u64 x) = x := by
  unfold In64 at h
  unfold u64 Sh30Neutral.i64 Sh30Neutral.unsigned
  have e1 : ((2 ^ 64 : Nat) : Int) = 18446744073709551616 := by decide
  have e2 : (2 ^ 63 : Nat) = 9223372036854775808 := by decide
  have e3 : (2 : Int) ^ 64 = 18446744073709551616 := by decide
  rw [e1, e2, e3]
  by_cases c : 0 ≤ x
  · rw [Int.emod_eq_of_lt c (by omega), if_pos (by omega)]
    omega
  · rw [show x % 18446744073709551616 = x + 18446744073709551616 by
      rw [← Int.add_emod_right, Int.emod_eq_of_lt (by omega) (by omega)], if_neg (by omega)]
    omega
theorem rest_eq {r : List Int} (h : ∀ x ∈ r, In64 x) (n : Nat) (hn : n = r.length) : ((r.map u64 ++ []).take n).map Sh30Neutral.i64 = r := by
  rw [List.append_nil, hn, List.take_of_length_le (by rw [List.length_map]; exact Nat.le_refl _), List.map_map]
  rw [show r.map (Sh30Neutral.i64 ∘ u64) = r.map id from List.map_congr_left fun x hx => i64_u64 (h x hx), List.map_id]
theorem all64 {r : List Int} (h : (r.all fun z => NeutralIO.within z (-9223372036854775808) 9223372036854775807) = true) : ∀ x ∈ r, In64 x := fun x hx => in64_of (List.all_eq_true.mp h x hx)
abbrev cOf (c : List (List Int)) : Sh30.Call × List Int := Sh30Neutral.callOf (Sh30Neutral.natural (PySh30.whole c))
abbrev gOf (c : List (List Int)) : Prop := Sh30Neutral.goodCall (PySh30.whole c) = true
theorem dec0 {a b c d e : Int} {r : List Int} (h : gOf [[0, a, b, c, d, e], r]) : cOf [[0, a, b, c, d, e], r] = (.begin_ a b c d e, r) := by
  have h : (NeutralIO.within a (-9223372036854775808) 9223372036854775807 && (NeutralIO.within b (-9223372036854775808) 9223372036854775807 && (NeutralIO.within c (-9223372036854775808) 9223372036854775807 && (NeutralIO.within d (-9223372036854775808) 9223372036854775807 && (NeutralIO.within e (-9223372036854775808) 9223372036854775807 &&
    (NeutralIO.within (r.length : Int) 0 4096 && (decide ((r.length : Int) = (r.length : Int)) && ((r.all fun z => NeutralIO.within z (-9223372036854775808) 9223372036854775807) && true)))))))) = true := h
  simp only [Bool.and_eq_true] at h
  obtain ⟨h1, h2, h3, h4, h5, _, _, h6, _⟩ := h
  show ((Sh30.Call.begin_ (Sh30Neutral.i64 (u64 a)) (Sh30Neutral.i64 (u64 b)) (Sh30Neutral.i64 (u64 c)) (Sh30Neutral.i64 (u64 d)) (Sh30Neutral.i64 (u64 e)), ((r.map u64 ++ []).take (r.length : Int).toNat).map Sh30Neutral.i64) : Sh30.Call × List Int) = _
  rw [i64_u64 (in64_of h1), i64_u64 (in64_of h2), i64_u64 (in64_of h3), i64_u64 (in64_of h4), i64_u64 (in64_of h5), rest_eq (all64 h6) _ (Int.toNat_natCast _)]
theorem dec1 {a b c : Int} {r : List Int} (h : gOf [[1, a, b, c], r]) : cOf [[1, a, b, c], r] = (.take a b c, r) := by
  have h : (NeutralIO.within a (-9223372036854775808) 9223372036854775807 && (NeutralIO.within b (-9223372036854775808) 9223372036854775807 && (NeutralIO.within c (-9223372036854775808) 9223372036854775807 &&
    (NeutralIO.within (r.length : Int) 0 4096 && (decide ((r.length : Int) = (r.length : Int)) && ((r.all fun z => NeutralIO.within z (-9223372036854775808) 9223372036854775807) && true)))))) = true := h
  simp only [Bool.and_eq_true] at h
  obtain ⟨h1, h2, h3, _, _, h6, _⟩ := h
  show ((Sh30.Call.take (Sh30Neutral.i64 (u64 a)) (Sh30Neutral.i64 (u64 b)) (Sh30Neutral.i64 (u64 c)), ((r.map u64 ++ []).take (r.length : Int).toNat).map Sh30Neutral.i64) : Sh30.Call × List Int) = _
  rw [i64_u64 (in64_of h1), i64_u64 (in64_of h2), i64_u64 (in64_of h3), rest_eq (all64 h6) _ (Int.toNat_natCast _)]
theorem dec2 {a b : Int} {r : List Int} (h : gOf [[2, a, b], r]) : cOf [[2, a, b], r] = (.give a b, r) := by
  have h : (NeutralIO.within a (-9223372036854775808) 9223372036854775807 && (NeutralIO.within b (-9223372036854775808) 9223372036854775807 &&
    (NeutralIO.within (r.length : Int) 0 4096 && (decide ((r.length : Int) = (r.length : Int)) && ((r.all fun z => NeutralIO.within z (-9223372036854775808) 9223372036854775807) && true))))) = true := h
  simp only [Bool.and_eq_true] at h
  obtain ⟨h1, h2, _, _, h6, _⟩ := h
  show ((Sh30.Call.give (Sh30Neutral.i64 (u64 a)) (Sh30Neutral.i64 (u64 b)), ((r.map u64 ++ []).take (r.length : Int).toNat).map Sh30Neutral.i64) : Sh30.Call × List Int) = _
  rw [i64_u64 (in64_of h1), i64_u64 (in64_of h2), rest_eq (all64 h6) _ (Int.toNat_natCast _)]
theorem dec3 {a b c : Int} {r : List Int} (h : gOf [[3, a, b, c], r]) : cOf [[3, a, b, c], r] = (.resize a b c, r) := by
  have h : (NeutralIO.within a (-9223372036854775808) 9223372036854775807 && (NeutralIO.within b (-9223372036854775808) 9223372036854775807 && (NeutralIO.within c (-9223372036854775808) 9223372036854775807 &&
    (NeutralIO.within (r.length : Int) 0 4096 && (decide ((r.length : Int) = (r.length : Int)) && ((r.all fun z => NeutralIO.within z (-9223372036854775808) 9223372036854775807) && true)))))) = true := h
  simp only [Bool.and_eq_true] at h
  obtain ⟨h1, h2, h3, _, _, h6, _⟩ := h
  show ((Sh30.Call.resize (Sh30Neutral.i64 (u64 a)) (Sh30Neutral.i64 (u64 b)) (Sh30Neutral.i64 (u64 c)), ((r.map u64 ++ []).take (r.length : Int).toNat).map Sh30Neutral.i64) : Sh30.Call × List Int) = _
  rw [i64_u64 (in64_of h1), i64_u64 (in64_of h2), i64_u64 (in64_of h3), rest_eq (all64 h6) _ (Int.toNat_natCast _)]
theorem dec4 {a : Int} {r : List Int} (h : gOf [[4, a], r]) : cOf [[4, a], r] = (.write a (some (r.map Int.toNat)), []) ∧ ∀ x ∈ r, 0 ≤ x ∧ x ≤ 255 := by
  have h : (NeutralIO.within a (-9223372036854775808) 9223372036854775807 && (NeutralIO.within (r.length : Int) (-9223372036854775808) 9223372036854775807 &&
    (decide (r.length = Sh30Neutral.size 0 4096 (r.length : Int) 1) && (NeutralIO.bytes r && true)))) = true := h
  simp only [Bool.and_eq_true, decide_eq_true_eq] at h
  obtain ⟨h1, h2, h3, h4, _⟩ := h
  have hl : r.length ≤ 4096 := by
    unfold Sh30Neutral.size at h3
    split at h3 <;> omega
  refine ⟨?_, fun x hx => ?_⟩
  · show ((Sh30.Call.write (Sh30Neutral.i64 (u64 a)) (if 0 ≤ Sh30Neutral.i64 (u64 (r.length : Int)) ∧ Sh30Neutral.i64 (u64 (r.length : Int)) ≤ 4096 then some ((r.map Int.toNat ++ []).take (Sh30Neutral.i64 (u64 (r.length : Int))).toNat) else none), []) : Sh30.Call × List Int) = _
    rw [i64_u64 (in64_of h1), i64_u64 (in64_of h2), if_pos (by omega), Int.toNat_natCast, List.append_nil, List.take_of_length_le (by rw [List.length_map]; exact Nat.le_refl _)]
  · unfold NeutralIO.bytes at h4
    have := List.all_eq_true.mp h4 x hx
    rw [Bool.and_eq_true, decide_eq_true_eq, decide_eq_true_eq] at this
    exact this
theorem dec5 {a b : Int} (h : gOf [[5, a, b]]) : cOf [[5, a, b]] = (.read a b, []) := by
  have h : (NeutralIO.within a (-9223372036854775808) 9223372036854775807 && (NeutralIO.within b (-9223372036854775808) 9223372036854775807 && true)) = true := h
  simp only [Bool.and_eq_true] at h
  obtain ⟨h1, h2, _⟩ := h
  show ((Sh30.Call.read (Sh30Neutral.i64 (u64 a)) (Sh30Neutral.i64 (u64 b)), []) : Sh30.Call × List Int) = _
  rw [i64_u64 (in64_of h1), i64_u64 (in64_of h2)]
theorem good_rest {r : List Int} (h : (NeutralIO.within (r.length : Int) 0 4096 && (decide ((r.length : Int) = (r.length : Int)) && ((r.all fun z => NeutralIO.within z (-9223372036854775808) 9223372036854775807) && true))) = true) : ∀ x ∈ r, In64 x := by
  simp only [Bool.and_eq_true] at h
  obtain ⟨_, _, h6, _⟩ := h
  exact all64 h6
theorem dec6 {r : List Int} (h : gOf [[6], r]) : cOf [[6], r] = (.look, r) := by
  show ((Sh30.Call.look, ((r.map u64 ++ []).take (r.length : Int).toNat).map Sh30Neutral.i64) : Sh30.Call × List Int) = _
  rw [rest_eq (good_rest h) _ (Int.toNat_natCast _)]
theorem dec7 {r : List Int} (h : gOf [[7], r]) : cOf [[7], r] = (.let_, r) := by
  show ((Sh30.Call.let_, ((r.map u64 ++ []).take (r.length : Int).toNat).map Sh30Neutral.i64) : Sh30.Call × List Int) = _
  rw [rest_eq (good_rest h) _ (Int.toNat_natCast _)]
theorem dec8 {r : List Int} (h : gOf [[8], r]) : cOf [[8], r] = (.left, r) := by
  show ((Sh30.Call.left, ((r.map u64 ++ []).take (r.length : Int).toNat).map Sh30Neutral.i64) : Sh30.Call × List Int) = _
  rw [rest_eq (good_rest h) _ (Int.toNat_natCast _)]
theorem dec9 {a : Int} (h : gOf [[9, a]]) : cOf [[9, a]] = (.told a, []) := by
  have h : (NeutralIO.within a (-9223372036854775808) 9223372036854775807 && true) = true := h
  simp only [Bool.and_eq_true] at h
  show ((Sh30.Call.told (Sh30Neutral.i64 (u64 a)), []) : Sh30.Call × List Int) = _
  rw [i64_u64 (in64_of h.1)]
theorem dec10 {a : Int} (h : gOf [[10, a]]) : cOf [[10, a]] = (.whose a, []) := by
  have h : (NeutralIO.within a (-9223372036854775808) 9223372036854775807 && true) = true := h
  simp only [Bool.and_eq_true] at h
  show ((Sh30.Call.whose (Sh30Neutral.i64 (u64 a)), []) : Sh30.Call × List Int) = _
  rw [i64_u64 (in64_of h.1)]
theorem dec11 {a b : Int} (h : gOf [[11, a, b]]) : cOf [[11, a, b]] = (.pieces a b, []) := by
  have h : (NeutralIO.within a (-9223372036854775808) 9223372036854775807 && (NeutralIO.within b (-9223372036854775808) 9223372036854775807 && true)) = true := h
  simp only [Bool.and_eq_true] at h
  obtain ⟨h1, h2, _⟩ := h
  show ((Sh30.Call.pieces (Sh30Neutral.i64 (u64 a)) (Sh30Neutral.i64 (u64 b)), []) : Sh30.Call × List Int) = _
  rw [i64_u64 (in64_of h1), i64_u64 (in64_of h2)]
theorem dec12 : cOf [[12]] = (.sums, []) := rfl
end GK
end
section
set_option linter.all false
set_option maxRecDepth 100000
namespace GK
/-! ### one call -/
/-- a step of the Spec, decoded -/
def stepOf (s : Sh30.House) (k : Sh30.Call × List Int) : Sh30.House × List Int := let x := (Sh30.spec s k.1).played k.2
  (x.1, (x.2.2.1.length : Int) :: (x.2.2.1.flatMap Sh30Neutral.askOut ++ x.2.1.value :: x.2.1.out))
theorem step_eq (s : Sh30.House) (c : List (List Int)) : Sh30Neutral.step s (PySh30.whole c) = stepOf s (cOf c) := rfl
theorem flat_ge (l : List Sh30.Ask) : l.length ≤ (l.flatMap Sh30Neutral.askOut).length := by
  induction l with
  | nil => exact Nat.le_refl _
  | cons q l ih =>
    rw [List.flatMap_cons, List.length_append, List.length_cons]
    have : 1 ≤ (Sh30Neutral.askOut q).length := by
      cases q with
      | below q => cases q <;> exact Nat.succ_le_succ (Nat.zero_le _)
      | tell => exact Nat.succ_le_succ (Nat.zero_le _)
    omega
theorem step_bound {s : Sh30.House} {k : Sh30.Call × List Int} (h : (stepOf s k).2.length < 1000000) : (fin o30 ⟨k.2, []⟩ (Sh30.spec s k.1)).2.2.length ≤ LIM := by
  have h : ((((Sh30.spec s k.1).played k.2).2.2.1.length : Int) :: (((Sh30.spec s k.1).played k.2).2.2.1.flatMap Sh30Neutral.askOut ++ ((Sh30.spec s k.1).played k.2).2.1.value :: ((Sh30.spec s k.1).played k.2).2.1.out)).length < 1000000 := h
  rw [List.length_cons, List.length_append] at h
  have := flat_ge ((Sh30.spec s k.1).played k.2).2.2.1
  unfold fin
  show ([] ++ ((Sh30.spec s k.1).played k.2).2.2.1.map o30).length ≤ 16777216
  rw [List.nil_append, List.length_map]
  omega
theorem fin_step {s s' : Sh30.House} {k : Sh30.Call × List Int} {a : Sh30.Ans} {rows : List (List Int)} (h : fin o30 ⟨k.2, []⟩ (Sh30.spec s k.1) = (s', a, rows)) : stepOf s k = (s', rowOf rows ++ (a.value :: a.out)) := by
  unfold fin at h
  have h : (((Sh30.spec s k.1).played k.2).1, ((Sh30.spec s k.1).played k.2).2.1, [] ++ ((Sh30.spec s k.1).played k.2).2.2.1.map o30) = (s', a, rows) := h
  rw [List.nil_append, Prod.mk.injEq, Prod.mk.injEq] at h
  obtain ⟨h1, h2, h3⟩ := h
  unfold stepOf rowOf
  rw [← h3, ← h1, ← h2, List.length_map, ← List.flatMap_def]
  rfl
/-- what one call comes to -/
def OneOk (h : Option MHouse) (s : Sh30.House) (p : Int) (n row : List Int) (k : Sh30.Call × List Int) : Prop :=
  ∃ h', oneCall h p n row = some (h', (stepOf s k).2) ∧ RelO h' (stepOf s k).1 ∧ (s.isSome = true → (stepOf s k).1.isSome = true)
theorem one_changing {h : MHouse} {s : Sh30.State} {p : Int} {n row : List Int} {c : Sh30.Call} (hp : p ≠ 0) (hp2 : p = 1 ∨ p = 2 ∨ p = 3 ∨ p = 6 ∨ p = 7 ∨ p = 8) (hb : (stepOf (some s) (c, row)).2.length < 1000000)
    (hA : Alike ⟨row, []⟩ (h.changing ⟨row, []⟩ p n) (Sh30.spec (some s) c)) : OneOk (some h) (some s) p n row (c, row) := by
  obtain ⟨A', h', s', t', F', a, q1, R, q2⟩ := hA
  have e := fin_step (k := (c, row)) q2
  rw [e] at hb
  refine ⟨some h', ?_, ?_, fun _ => ?_⟩
  · unfold oneCall
    rw [if_neg hp, if_pos hp2, Option.bind_some, q1, Option.bind_some, e]
    have hb : (rowOf A'.rows ++ (a.value :: a.out)).length < 1000000 := hb
    rw [List.length_append] at hb
    exact if_pos (by show _ ≤ 16777216; show (rowOf A'.rows).length + (a.value :: a.out).length ≤ 16777216; omega)
  · rw [e]
    exact ⟨t', F', R⟩
  · rw [e]
    rfl
theorem one_plain {h : MHouse} {s : Sh30.State} {p : Int} {n row : List Int} {c : Sh30.Call} (hp : p ≠ 0) (hp2 : ¬ (p = 1 ∨ p = 2 ∨ p = 3 ∨ p = 6 ∨ p = 7 ∨ p = 8)) (hb : (stepOf (some s) (c, [])).2.length < 1000000)
    (hA : AlikeP (h.plain p n row) (Sh30.spec (some s) c)) : OneOk (some h) (some s) p n row (c, []) := by
  obtain ⟨h', s', t', F', a, q1, R, q2⟩ := hA
  have e : stepOf (some s) (c, []) = (some s', rowOf [] ++ (a.value :: a.out)) := fin_step (k := (c, [])) (by
    show fin o30 ⟨[], []⟩ (Sh30.spec (some s) c) = _
    rw [q2, fin_done])
  rw [e] at hb
  refine ⟨some h', ?_, ?_, fun _ => ?_⟩
  · unfold oneCall
    rw [if_neg hp, if_neg hp2, Option.bind_some, q1, Option.bind_some, e]
    have hb : (rowOf [] ++ (a.value :: a.out)).length < 1000000 := hb
    rw [List.length_append] at hb
    have hr : (rowOf []).length = 1 := rfl
    exact if_pos (by show 1 + (a.value :: a.out).length ≤ 16777216; omega)
  · rw [e]
    exact ⟨t', F', R⟩
  · rw [e]
    rfl
theorem one_begin {h : Option MHouse} {s : Sh30.House} (R : RelO h s) {a b c d e : Int} {row : List Int} (hb : (stepOf s (.begin_ a b c d e, row)).2.length < 1000000) : OneOk h s 0 [a, b, c, d, e] row (.begin_ a b c d e, row) := by
  obtain ⟨A', h', s', z, q1, R', q2, q3⟩ := begin_sim (A := ⟨row, []⟩) R (step_bound (k := (.begin_ a b c d e, row)) hb)
  have e := fin_step (k := (.begin_ a b c d e, row)) q3
  rw [e] at hb
  refine ⟨h', ?_, ?_, fun q => ?_⟩
  · unfold oneCall
    rw [if_pos rfl, q1, Option.bind_some, e]
    have hb : (rowOf A'.rows ++ (z.value :: z.out)).length < 1000000 := hb
    rw [List.length_append] at hb
    exact if_pos (by show (rowOf A'.rows).length + (z.value :: z.out).length ≤ 16777216; omega)
  · rw [e]
    exact R'
  · rw [e]
    exact q2 q
/-- which calls there are -/
theorem shape_eq {p : Int} {n k : Nat} (h : PySh30.shape p = some (n, k)) : (0 ≤ p ∧ p ≤ 12) ∧ countsT.getD p.toNat 0 = n ∧ rowsT.getD p.toNat 0 = k ∧ (k = 0 ∨ k = 1) := by
  unfold PySh30.shape at h
  by_cases c0 : p = 0
  · subst c0
    cases h
    exact ⟨by decide, rfl, rfl, by decide⟩
  rw [if_neg c0] at h
  by_cases c1 : p = 1
  · subst c1
    cases h
    exact ⟨by decide, rfl, rfl, by decide⟩
  rw [if_neg c1] at h
  by_cases c2 : p = 2
  · subst c2
    cases h
    exact ⟨by decide, rfl, rfl, by decide⟩
  rw [if_neg c2] at h
  by_cases c3 : p = 3
  · subst c3
    cases h
    exact ⟨by decide, rfl, rfl, by decide⟩
  rw [if_neg c3] at h
  by_cases c4 : p = 4
  · subst c4
    cases h
    exact ⟨by decide, rfl, rfl, by decide⟩
  rw [if_neg c4] at h
  by_cases c5 : p = 5
  · subst c5
    cases h
    exact ⟨by decide, rfl, rfl, by decide⟩
  rw [if_neg c5] at h
  by_cases c6 : p = 6
  · subst c6
    cases h
    exact ⟨by decide, rfl, rfl, by decide⟩
  rw [if_neg c6] at h
  by_cases c7 : p = 7
  · subst c7
    cases h
    exact ⟨by decide, rfl, rfl, by decide⟩
  rw [if_neg c7] at h
  by_cases c8 : p = 8
  · subst c8
    cases h
    exact ⟨by decide, rfl, rfl, by decide⟩
  rw [if_neg c8] at h
  by_cases c9 : p = 9
  · subst c9
    cases h
    exact ⟨by decide, rfl, rfl, by decide⟩
  rw [if_neg c9] at h
  by_cases c10 : p = 10
  · subst c10
    cases h
    exact ⟨by decide, rfl, rfl, by decide⟩
  rw [if_neg c10] at h
  by_cases c11 : p = 11
  · subst c11
    cases h
    exact ⟨by decide, rfl, rfl, by decide⟩
  rw [if_neg c11] at h
  by_cases c12 : p = 12
  · subst c12
    cases h
    exact ⟨by decide, rfl, rfl, by decide⟩
  rw [if_neg c12] at h
  cases h
theorem len1 {l : List Int} (h : l.length = 1) : ∃ a, l = [a] := match l, h with | [a], _ => ⟨a, rfl⟩
theorem len2 {l : List Int} (h : l.length = 2) : ∃ a b, l = [a, b] := match l, h with | [a, b], _ => ⟨a, b, rfl⟩
theorem len3 {l : List Int} (h : l.length = 3) : ∃ a b c, l = [a, b, c] := match l, h with | [a, b, c], _ => ⟨a, b, c, rfl⟩
theorem len5 {l : List Int} (h : l.length = 5) : ∃ a b c d e, l = [a, b, c, d, e] := match l, h with | [a, b, c, d, e], _ => ⟨a, b, c, d, e, rfl⟩
/-- a call as the rows tell it -/
def callL (p : Int) (n row : List Int) (k : Nat) : List (List Int) := if k = 1 then [p :: n, row] else [p :: n]
theorem one_sim {h : Option MHouse} {s : Sh30.House} {p : Int} {k m : Nat} {n row : List Int} (R : RelO h s) (hs : PySh30.shape p = some (m, k)) (hn : n.length = m) (h0 : p = 0 ∨ s.isSome = true) (hg : gOf (callL p n row k)) (hb : (Sh30Neutral.step s (PySh30.whole (callL p n row k))).2.length < 1000000) :
    ∃ h', oneCall h p n row = some (h', (Sh30Neutral.step s (PySh30.whole (callL p n row k))).2) ∧ RelO h' (Sh30Neutral.step s (PySh30.whole (callL p n row k))).1 ∧ (s.isSome = true → (Sh30Neutral.step s (PySh30.whole (callL p n row k))).1.isSome = true) := by
  rw [step_eq] at hb ⊢
  by_cases c0 : p = 0
  · subst c0
    have hs : some (5, 1) = some (m, k) := hs
    cases hs
    obtain ⟨a, b, c, d, e, rfl⟩ := len5 hn
    have hd : cOf (callL 0 [a, b, c, d, e] row 1) = _ := dec0 hg
    rw [hd] at hb ⊢
    exact one_begin R hb
  · have hsome := h0.resolve_left c0
    match h, s, R, hsome with
    | some h, some s, R, _ =>
    obtain ⟨t, F, R⟩ := R
    unfold PySh30.shape at hs
    rw [if_neg c0] at hs
    by_cases c1 : p = 1
    · subst c1
      cases hs
      obtain ⟨a, b, c, rfl⟩ := len3 hn
      have hd : cOf (callL 1 [a, b, c] row 1) = _ := dec1 hg
      rw [hd] at hb ⊢
      exact one_changing (by decide) (by decide) hb (takeC_sim R (step_bound hb))
    rw [if_neg c1] at hs
    by_cases c2 : p = 2
    · subst c2
      cases hs
      obtain ⟨a, b, rfl⟩ := len2 hn
      have hd : cOf (callL 2 [a, b] row 1) = _ := dec2 hg
      rw [hd] at hb ⊢
      exact one_changing (by decide) (by decide) hb (giveC_sim R (step_bound hb))
    rw [if_neg c2] at hs
    by_cases c3 : p = 3
    · subst c3
      cases hs
      obtain ⟨a, b, c, rfl⟩ := len3 hn
      have hd : cOf (callL 3 [a, b, c] row 1) = _ := dec3 hg
      rw [hd] at hb ⊢
      exact one_changing (by decide) (by decide) hb (resizeC_sim R (step_bound hb))
    rw [if_neg c3] at hs
    by_cases c4 : p = 4
    · subst c4
      cases hs
      obtain ⟨a, rfl⟩ := len1 hn
      obtain ⟨hd, hr⟩ := dec4 hg
      have hd : cOf (callL 4 [a] row 1) = _ := hd
      rw [hd] at hb ⊢
      have hw := writeC_sim R (at_ := a) (b := row.map Int.toNat) (fun y hy => by
        obtain ⟨z, hz, rfl⟩ := List.mem_map.mp hy
        have := hr z hz
        omega)
      rw [List.map_map, show row.map ((fun (n : Nat) => (n : Int)) ∘ Int.toNat) = row.map id from List.map_congr_left fun z hz => by
        have := hr z hz
        show ((z.toNat : Nat) : Int) = z
        omega, List.map_id] at hw
      exact one_plain (by decide) (by decide) hb hw
    rw [if_neg c4] at hs
    by_cases c5 : p = 5
    · subst c5
      cases hs
      obtain ⟨a, b, rfl⟩ := len2 hn
      have hd : cOf (callL 5 [a, b] row 0) = _ := dec5 hg
      rw [hd] at hb ⊢
      exact one_plain (by decide) (by decide) hb (readC_sim R)
    rw [if_neg c5] at hs
    by_cases c6 : p = 6
    · subst c6
      cases hs
      have e := List.length_eq_zero_iff.mp hn
      subst e
      have hd : cOf (callL 6 [] row 1) = _ := dec6 hg
      rw [hd] at hb ⊢
      exact one_changing (by decide) (by decide) hb (lookC_sim R (step_bound hb))
    rw [if_neg c6] at hs
    by_cases c7 : p = 7
    · subst c7
      cases hs
      have e := List.length_eq_zero_iff.mp hn
      subst e
      have hd : cOf (callL 7 [] row 1) = _ := dec7 hg
      rw [hd] at hb ⊢
      exact one_changing (by decide) (by decide) hb (letC_sim R (step_bound hb))
    rw [if_neg c7] at hs
    by_cases c8 : p = 8
    · subst c8
      cases hs
      have e := List.length_eq_zero_iff.mp hn
      subst e
      have hd : cOf (callL 8 [] row 1) = _ := dec8 hg
      rw [hd] at hb ⊢
      exact one_changing (by decide) (by decide) hb (leftC_sim R (step_bound hb))
    rw [if_neg c8] at hs
    by_cases c9 : p = 9
    · subst c9
      cases hs
      obtain ⟨a, rfl⟩ := len1 hn
      have hd : cOf (callL 9 [a] row 0) = _ := dec9 hg
      rw [hd] at hb ⊢
      exact one_plain (by decide) (by decide) hb (toldC_sim R)
    rw [if_neg c9] at hs
    by_cases c10 : p = 10
    · subst c10
      cases hs
      obtain ⟨a, rfl⟩ := len1 hn
      have hd : cOf (callL 10 [a] row 0) = _ := dec10 hg
      rw [hd] at hb ⊢
      exact one_plain (by decide) (by decide) hb (whoseC_sim R)
    rw [if_neg c10] at hs
    by_cases c11 : p = 11
    · subst c11
      cases hs
      obtain ⟨a, b, rfl⟩ := len2 hn
      have hd : cOf (callL 11 [a, b] row 0) = _ := dec11 hg
      rw [hd] at hb ⊢
      exact one_plain (by decide) (by decide) hb (piecesC_sim R)
    rw [if_neg c11] at hs
    by_cases c12 : p = 12
    · subst c12
      cases hs
      have e := List.length_eq_zero_iff.mp hn
      subst e
      have hd : cOf (callL 12 [] row 0) = _ := dec12
      rw [hd] at hb ⊢
      exact one_plain (by decide) (by decide) hb (sumsC_sim R)
    rw [if_neg c12] at hs
    cases hs
end GK
end
section
set_option linter.all false
set_option maxRecDepth 100000
namespace GK
/-! ### all calls -/
theorem call_cut {l : List Int} {at_ : Nat} {p : Int} {r : List Int} (e : l.drop at_ = p :: r) : at_ < l.length ∧ l[at_]? = some p ∧ l.drop (at_ + 1) = r := by
  have h1 : at_ < l.length := by
    rcases Nat.lt_or_ge at_ l.length with h | h
    · exact h
    · rw [List.drop_eq_nil_of_le h] at e
      cases e
  refine ⟨h1, ?_, ?_⟩
  · have := List.getElem?_drop (xs := l) (i := at_) (j := 0)
    rw [e] at this
    exact this.symm
  · rw [← List.drop_drop, e]
    rfl
/-- one call taken off the list -/
theorem call_off {l : List Int} {at_ : Nat} {p : Int} {r : List Int} {c : List (List Int)} {t : List Int} (e : l.drop at_ = p :: r) (hc : PyFlat.call PySh30.shape (p :: r) = some (c, t)) :
    ∃ m k n row at2, PySh30.shape p = some (m, k) ∧ n = (l.drop (at_ + 1)).take m ∧ n.length = m ∧ at_ + 1 + m ≤ l.length ∧ rowAt l (at_ + 1 + m) k = some (row, at2) ∧ l.drop at2 = t ∧ c = callL p n row k := by
  obtain ⟨h1, h2, h3⟩ := call_cut e
  have hc : (match PySh30.shape p with
    | none => none
    | some (n, k) => if r.length < n then none else match PyFlat.rows k (r.drop n) with
      | none => none
      | some (xs, t) => some ((p :: r.take n) :: xs, t)) = some (c, t) := hc
  cases hs : PySh30.shape p with
  | none =>
    rw [hs] at hc
    cases hc
  | some x =>
    obtain ⟨m, k⟩ := x
    rw [hs] at hc
    have hc : (if r.length < m then none else match PyFlat.rows k (r.drop m) with
      | none => none
      | some (xs, t) => some ((p :: r.take m) :: xs, t)) = some (c, t) := hc
    by_cases cl : r.length < m
    · rw [if_pos cl] at hc
      cases hc
    · rw [if_neg cl] at hc
      have hlen : r.length = l.length - (at_ + 1) := by rw [← h3, List.length_drop]
      have hd : l.drop (at_ + 1 + m) = r.drop m := by rw [← h3, List.drop_drop]
      have hk := (shape_eq hs).2.2.2
      rcases hk with rfl | rfl
      · have hc : some ((p :: r.take m) :: [], r.drop m) = some (c, t) := hc
        cases hc
        exact ⟨m, 0, r.take m, [], at_ + 1 + m, rfl, by rw [h3], by rw [List.length_take]; omega, by omega, rfl, hd, rfl⟩
      · have er : PyFlat.rows 1 (r.drop m) = match PyFlat.row (r.drop m) with
          | none => none
          | some (x, s) => some ([x], s) := rfl
        rw [er] at hc
        cases hq : r.drop m with
        | nil =>
          rw [hq] at hc
          cases hc
        | cons z q =>
          rw [hq] at hc hd
          obtain ⟨g1, g2, g3⟩ := call_cut hd
          have er : PyFlat.row (z :: q) = if 0 ≤ z ∧ z.toNat ≤ q.length then some (q.take z.toNat, q.drop z.toNat) else none := rfl
          rw [er] at hc
          by_cases cz : 0 ≤ z ∧ z.toNat ≤ q.length
          · rw [if_pos cz] at hc
            have hc : some ((p :: r.take m) :: [q.take z.toNat], q.drop z.toNat) = some (c, t) := hc
            cases hc
            refine ⟨m, 1, r.take m, q.take z.toNat, at_ + 1 + m + 1 + z.toNat, rfl, by rw [h3], by rw [List.length_take]; omega, by omega, ?_, ?_, rfl⟩
            · unfold rowAt
              rw [if_pos rfl, g2, Option.bind_some, if_pos cz.1, g3]
            · rw [← List.drop_drop, g3]
          · rw [if_neg cz] at hc
            cases hc
theorem whole_head {p : Int} {m k : Nat} {n row : List Int} (h : PySh30.shape p = some (m, k)) (hn : n.length = m) : ((PySh30.whole (callL p n row k)).headD []).headD 9 = p := by
  unfold PySh30.shape at h
  by_cases c0 : p = 0
  · subst c0
    cases h
    obtain ⟨a, b, c, d, e, rfl⟩ := len5 hn
    rfl
  rw [if_neg c0] at h
  by_cases c1 : p = 1
  · subst c1
    cases h
    obtain ⟨a, b, c, rfl⟩ := len3 hn
    rfl
  rw [if_neg c1] at h
  by_cases c2 : p = 2
  · subst c2
    cases h
    obtain ⟨a, b, rfl⟩ := len2 hn
    rfl
  rw [if_neg c2] at h
  by_cases c3 : p = 3
  · subst c3
    cases h
    obtain ⟨a, b, c, rfl⟩ := len3 hn
    rfl
  rw [if_neg c3] at h
  by_cases c4 : p = 4
  · subst c4
    cases h
    obtain ⟨a, rfl⟩ := len1 hn
    rfl
  rw [if_neg c4] at h
  by_cases c5 : p = 5
  · subst c5
    cases h
    obtain ⟨a, b, rfl⟩ := len2 hn
    rfl
  rw [if_neg c5] at h
  by_cases c6 : p = 6
  · subst c6
    cases h
    have e := List.length_eq_zero_iff.mp hn
    subst e
    rfl
  rw [if_neg c6] at h
  by_cases c7 : p = 7
  · subst c7
    cases h
    have e := List.length_eq_zero_iff.mp hn
    subst e
    rfl
  rw [if_neg c7] at h
  by_cases c8 : p = 8
  · subst c8
    cases h
    have e := List.length_eq_zero_iff.mp hn
    subst e
    rfl
  rw [if_neg c8] at h
  by_cases c9 : p = 9
  · subst c9
    cases h
    obtain ⟨a, rfl⟩ := len1 hn
    rfl
  rw [if_neg c9] at h
  by_cases c10 : p = 10
  · subst c10
    cases h
    obtain ⟨a, rfl⟩ := len1 hn
    rfl
  rw [if_neg c10] at h
  by_cases c11 : p = 11
  · subst c11
    cases h
    obtain ⟨a, b, rfl⟩ := len2 hn
    rfl
  rw [if_neg c11] at h
  by_cases c12 : p = 12
  · subst c12
    cases h
    have e := List.length_eq_zero_iff.mp hn
    subst e
    rfl
  rw [if_neg c12] at h
  cases h
theorem calls_nil {f : Nat} {raw : List (List (List Int))} (h : PyFlat.calls PySh30.shape f [] = some raw) : raw = [] := by
  cases f <;> (cases h; rfl)
theorem main_sim : ∀ (f : Nat) (l : List Int) (at_ : Nat) (raw : List (List (List Int))) (h : Option MHouse) (s : Sh30.House) (found : List Int), PyFlat.calls PySh30.shape f (l.drop at_) = some raw → RelO h s → (∀ c ∈ raw.map PySh30.whole, Sh30Neutral.goodCall c = true) → Sh30Neutral.total s (raw.map PySh30.whole) < 1000000 →
    (s.isSome = true ∨ ∃ c rest, raw.map PySh30.whole = c :: rest ∧ (c.headD []).headD 9 = 0 ∧ (Sh30Neutral.step s c).1.isSome = true) →
    found.length + (PyFlat.told (PyFlat.played Sh30Neutral.step s (raw.map PySh30.whole))).length ≤ LIM →
    mainL f l at_ h found = some (found ++ PyFlat.told (PyFlat.played Sh30Neutral.step s (raw.map PySh30.whole))) ∨ raw = [] ∧ mainL f l at_ h found = some found
  | f, l, at_, raw, h, s, found, hc, R, hg, ht, h0, hb => by
    cases e : l.drop at_ with
    | nil =>
      rw [e] at hc
      have hr := calls_nil hc
      have hl : ¬ at_ < l.length := by
        have := congrArg List.length e
        rw [List.length_drop, List.length_nil] at this
        omega
      refine .inr ⟨hr, ?_⟩
      cases f with
      | zero =>
        unfold mainL
        rw [if_neg hl]
      | succ f =>
        unfold mainL
        rw [if_neg hl]
    | cons p r =>
      rw [e] at hc
      cases f with
      | zero => cases hc
      | succ f =>
        have hc : (match PyFlat.call PySh30.shape (p :: r) with
          | none => none
          | some (c, t) => match PyFlat.calls PySh30.shape f t with
            | none => none
            | some cs => some (c :: cs)) = some raw := hc
        cases hcall : PyFlat.call PySh30.shape (p :: r) with
        | none =>
          rw [hcall] at hc
          cases hc
        | some x =>
          obtain ⟨c, t⟩ := x
          rw [hcall] at hc
          have hc : (match PyFlat.calls PySh30.shape f t with
            | none => none
            | some cs => some (c :: cs)) = some raw := hc
          cases hcs : PyFlat.calls PySh30.shape f t with
          | none =>
            rw [hcs] at hc
            cases hc
          | some cs =>
            rw [hcs] at hc
            cases hc
            obtain ⟨m, k, n, row, at2, s1, s2, s3, s4, s5, s6, s7⟩ := call_off e hcall
            obtain ⟨k1, k2, k3, _⟩ := shape_eq s1
            obtain ⟨g1, g2, g3⟩ := call_cut e
            rw [List.map_cons] at hg ht h0 hb ⊢
            have htl : (Sh30Neutral.step s (PySh30.whole c)).2.length + Sh30Neutral.total (Sh30Neutral.step s (PySh30.whole c)).1 (cs.map PySh30.whole) < 1000000 := ht
            have hp0 : p = 0 ∨ s.isSome = true := by
              rcases h0 with h0 | ⟨c', rest, h1, h2, h3⟩
              · exact .inr h0
              · injection h1 with h1 _
                subst h1
                refine .inl ?_
                rw [s7] at h2
                rw [whole_head s1 s3] at h2
                exact h2
            have hbs : (Sh30Neutral.step s (PySh30.whole (callL p n row k))).2.length < 1000000 := by
              rw [← s7]
              omega
            obtain ⟨h', o1, o2, o3⟩ := one_sim R s1 s3 hp0 (by
              rw [← s7]
              exact hg _ List.mem_cons_self) hbs
            rw [← s7] at o1 o2 o3
            have hsome : (Sh30Neutral.step s (PySh30.whole c)).1.isSome = true := by
              rcases h0 with h0 | ⟨c', rest, h1, h2, h3⟩
              · exact o3 h0
              · injection h1 with h1 _
                rw [h1]
                exact h3
            have hb : found.length + (((Sh30Neutral.step s (PySh30.whole c)).2.length : Int) :: (Sh30Neutral.step s (PySh30.whole c)).2 ++ PyFlat.told (PyFlat.played Sh30Neutral.step (Sh30Neutral.step s (PySh30.whole c)).1 (cs.map PySh30.whole))).length ≤ LIM := hb
            rw [List.length_append, List.length_cons] at hb
            have ih := main_sim f l at2 cs h' (Sh30Neutral.step s (PySh30.whole c)).1 (found ++ (((Sh30Neutral.step s (PySh30.whole c)).2.length : Int) :: (Sh30Neutral.step s (PySh30.whole c)).2)) (by rw [s6]; exact hcs) o2 (fun y hy => hg y (List.mem_cons_of_mem _ hy)) (by omega) (.inl hsome) (by
              rw [List.length_append, List.length_cons]
              omega)
            have em : mainL (f + 1) l at_ h found = mainL f l at2 h' (found ++ (((Sh30Neutral.step s (PySh30.whole c)).2.length : Int) :: (Sh30Neutral.step s (PySh30.whole c)).2)) := by
              show (if at_ < l.length then _ else _) = _
              rw [if_pos g1, g2, Option.bind_some, k2, k3, if_pos ⟨k1.1, k1.2, s4⟩, s5, Option.bind_some, ← s2, o1, Option.bind_some]
              exact if_pos (by
                show found.length + 1 + (Sh30Neutral.step s (PySh30.whole c)).2.length ≤ 16777216
                have hb : found.length + ((Sh30Neutral.step s (PySh30.whole c)).2.length + 1 + _) ≤ 16777216 := hb
                omega)
            refine .inl ?_
            rw [em]
            have et : found ++ PyFlat.told (PyFlat.played Sh30Neutral.step s (PySh30.whole c :: cs.map PySh30.whole)) = (found ++ (((Sh30Neutral.step s (PySh30.whole c)).2.length : Int) :: (Sh30Neutral.step s (PySh30.whole c)).2)) ++ PyFlat.told (PyFlat.played Sh30Neutral.step (Sh30Neutral.step s (PySh30.whole c)).1 (cs.map PySh30.whole)) := by
              rw [List.append_assoc]
              rfl
            rw [et]
            rcases ih with ih | ⟨i1, i2⟩
            · exact ih
            · rw [i2, i1]
              show _ = some (_ ++ [])
              rw [List.append_nil]
end GK
end
section
set_option linter.all false
set_option maxRecDepth 100000
namespace GK
theorem plain_law (l : List Int) (h : PySh30.answers_asked l = true) : GK.answers l = some (PySh30.answers l) := by
  unfold PySh30.answers_asked at h
  cases hc : PyFlat.calls PySh30.shape l.length l with
  | none =>
    rw [hc] at h
    cases h
  | some raw =>
    rw [hc] at h
    have ea : PySh30.answers l = PyFlat.told (PyFlat.played Sh30Neutral.step Sh30Neutral.start (raw.map PySh30.whole)) := by
      unfold PySh30.answers PySh30.calls
      rw [hc]
    have h : (!raw.isEmpty && PyFlat.atMost 300 raw && PyInside.calls PySh30.bound raw && Sh30Neutral.asked (raw.map PySh30.whole) && PyFlat.short 10000000 (PySh30.answers l)) = true := h
    rw [Bool.and_eq_true, Bool.and_eq_true, Bool.and_eq_true, Bool.and_eq_true] at h
    obtain ⟨⟨⟨⟨h1, _⟩, _⟩, h2⟩, h3⟩ := h
    unfold Sh30Neutral.asked at h2
    rw [Bool.and_eq_true, Bool.and_eq_true, Bool.and_eq_true, decide_eq_true_eq, decide_eq_true_eq] at h2
    obtain ⟨h4, h5, h6, h7⟩ := h2
    unfold PyFlat.short at h3
    have h3 := of_decide_eq_true h3
    rw [ea] at h3 ⊢
    have hm := main_sim l.length l 0 raw none none [] hc trivial (fun c hc => List.all_eq_true.mp h5 c hc) h6 (by
      refine .inr ?_
      cases e : raw.map PySh30.whole with
      | nil => exact absurd e h4
      | cons c rest =>
        rw [e] at h7
        have h7 : ((c.headD []).headD 9 == 0 && (Sh30Neutral.step none c).2.getLast? == some 0 && ((Sh30Neutral.step none c).1).isSome) = true := h7
        rw [Bool.and_eq_true, Bool.and_eq_true] at h7
        exact ⟨c, rest, rfl, eq_of_beq h7.1.1, h7.2⟩) (by
      show 0 + (PyFlat.told (PyFlat.played Sh30Neutral.step Sh30Neutral.start (raw.map PySh30.whole))).length ≤ 16777216
      omega)
    unfold GK.answers
    rcases hm with hm | ⟨e, _⟩
    · exact hm
    · rw [e] at h1
      cases h1
end GK
end
theorem PySem.Challenge.cw_guardedkeep_s01_answers_holds : PySem.Challenge.rw_guardedkeep_s01_answers.Holds := by
  exact GK.the_end GK.plain_law
