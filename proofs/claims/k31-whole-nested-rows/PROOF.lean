import PyProof.Rows.All
import Wide.All
import OpenK.AllK
import Wide.FinOn
import HandS.ForMost
import HandS.SortKw
import HandS.Walk
import HandS.Star
import KE.KTupSum
import KE.GoesEnum
import KE.SortData
import HandS.TupSets
import HandS.IsInst
import HandS.Deep
import HandS.TupAny
import HandS.TupMul
import PySem.Challenge.RW_sumsalone_k31_whole_nested_rows_listed
set_option Elab.async false
set_option linter.all false
set_option maxRecDepth 100000
set_option maxHeartbeats 8000000

namespace Nst

/-! ### sorted lists, as functions -/
def insD (x : Int) : List Int → List Int
  | [] => [x]
  | y :: ys => if y ≤ x then x :: y :: ys else y :: insD x ys
def isD : List Int → List Int
  | [] => []
  | x :: xs => insD x (isD xs)
theorem insD_perm (x : Int) : ∀ l : List Int, (insD x l).Perm (x :: l)
  | [] => List.Perm.refl _
  | y :: ys => by
    unfold insD
    split
    · exact List.Perm.refl _
    · exact ((insD_perm x ys).cons y).trans (List.Perm.swap x y ys)
theorem isD_perm : ∀ l : List Int, (isD l).Perm l
  | [] => List.Perm.refl _
  | x :: xs => (insD_perm x (isD xs)).trans ((isD_perm xs).cons x)
theorem insD_sorted (x : Int) : ∀ l : List Int, l.Pairwise (· ≥ ·) → (insD x l).Pairwise (· ≥ ·)
  | [], _ => List.pairwise_singleton _ _
  | y :: ys, h => by
    have h1 := List.pairwise_cons.mp h
    unfold insD
    split
    · rename_i c
      refine List.pairwise_cons.mpr ⟨fun z hz => ?_, h⟩
      rcases List.mem_cons.mp hz with e | hz
      · subst e; exact c
      · exact Int.le_trans (h1.1 z hz) c
    · rename_i c
      refine List.pairwise_cons.mpr ⟨fun z hz => ?_, insD_sorted x ys h1.2⟩
      rcases List.mem_cons.mp ((insD_perm x ys).mem_iff.mp hz) with e | hz
      · subst e; exact Int.le_of_lt (Int.not_le.mp c)
      · exact h1.1 z hz
theorem isD_sorted : ∀ l : List Int, (isD l).Pairwise (· ≥ ·)
  | [] => List.Pairwise.nil
  | x :: xs => insD_sorted x _ (isD_sorted xs)
/-- a list and another with the same items, both falling: one -/
theorem one_falling : ∀ {l m : List Int}, l.Perm m → l.Pairwise (· ≥ ·) → m.Pairwise (· ≥ ·) → l = m
  | [], m, p, _, _ => (List.Perm.eq_nil p.symm).symm
  | x :: l, [], p, _, _ => absurd p.length_eq (by simp)
  | x :: l, y :: m, p, hl, hm => by
    have a1 : x ≤ y := by
      rcases List.mem_cons.mp (p.mem_iff.mp List.mem_cons_self) with e | h
      · rw [e]; exact Int.le_refl _
      · exact (List.pairwise_cons.mp hm).1 x h
    have a2 : y ≤ x := by
      rcases List.mem_cons.mp (p.mem_iff.mpr List.mem_cons_self) with e | h
      · rw [e]; exact Int.le_refl _
      · exact (List.pairwise_cons.mp hl).1 y h
    have e : x = y := Int.le_antisymm a1 a2
    subst e
    rw [one_falling p.cons_inv (List.pairwise_cons.mp hl).2 (List.pairwise_cons.mp hm).2]
theorem isD_of {l m : List Int} (p : m.Perm l) (h : m.Pairwise (· ≥ ·)) : m = isD l := one_falling (p.trans (isD_perm l).symm) h (isD_sorted l)

/-! ### rows of rows, ascending -/
def leR : List Int → List Int → Bool
  | [], _ => true
  | _ :: _, [] => false
  | x :: xs, y :: ys => if x = y then leR xs ys else decide (x < y)
theorem leR_eq : ∀ p q : List Int, leR p q = decide (p ≤ q)
  | [], q => by simp [leR]
  | x :: xs, [] => by simp [leR]
  | x :: xs, y :: ys => by
    have ih := leR_eq xs ys
    by_cases h : x = y
    · subst h
      have e : leR (x :: xs) (x :: ys) = leR xs ys := by simp [leR]
      rw [e, ih]
      rw [decide_eq_decide]
      simp [List.cons_le_cons_iff]
    · have e : leR (x :: xs) (y :: ys) = decide (x < y) := by simp [leR, h]
      rw [e, decide_eq_decide]
      simp [List.cons_le_cons_iff, h]
def insA (x : List Int) : List (List Int) → List (List Int)
  | [] => [x]
  | y :: ys => if leR x y = true then x :: y :: ys else y :: insA x ys
def isA : List (List Int) → List (List Int)
  | [] => []
  | x :: xs => insA x (isA xs)
theorem insA_perm (x : List Int) : ∀ l, (insA x l).Perm (x :: l)
  | [] => List.Perm.refl _
  | y :: ys => by
    unfold insA
    split
    · exact List.Perm.refl _
    · exact ((insA_perm x ys).cons y).trans (List.Perm.swap x y ys)
theorem isA_perm : ∀ l, (isA l).Perm l
  | [] => List.Perm.refl _
  | x :: xs => (insA_perm x (isA xs)).trans ((isA_perm xs).cons x)
theorem insA_sorted (x : List Int) : ∀ l : List (List Int), l.Pairwise (· ≤ ·) → (insA x l).Pairwise (· ≤ ·)
  | [], _ => List.pairwise_singleton _ _
  | y :: ys, h => by
    have h1 := List.pairwise_cons.mp h
    unfold insA
    split
    · rename_i c
      rw [leR_eq] at c
      have c' : x ≤ y := of_decide_eq_true c
      refine List.pairwise_cons.mpr ⟨fun z hz => ?_, h⟩
      rcases List.mem_cons.mp hz with e | hz
      · subst e; exact c'
      · exact List.le_trans c' (h1.1 z hz)
    · rename_i c
      rw [leR_eq] at c
      have c' : ¬ x ≤ y := fun q => c (decide_eq_true q)
      refine List.pairwise_cons.mpr ⟨fun z hz => ?_, insA_sorted x ys h1.2⟩
      rcases List.mem_cons.mp ((insA_perm x ys).mem_iff.mp hz) with e | hz
      · subst e; exact (List.le_total z y).resolve_left c'
      · exact h1.1 z hz
theorem isA_sorted : ∀ l, (isA l).Pairwise (· ≤ ·)
  | [] => List.Pairwise.nil
  | x :: xs => insA_sorted x _ (isA_sorted xs)
theorem one_rising : ∀ {l m : List (List Int)}, l.Perm m → l.Pairwise (· ≤ ·) → m.Pairwise (· ≤ ·) → l = m
  | [], m, p, _, _ => (List.Perm.eq_nil p.symm).symm
  | x :: l, [], p, _, _ => absurd p.length_eq (by simp)
  | x :: l, y :: m, p, hl, hm => by
    have a1 : y ≤ x := by
      rcases List.mem_cons.mp (p.mem_iff.mp List.mem_cons_self) with e | h
      · rw [e]; exact List.le_refl _
      · exact (List.pairwise_cons.mp hm).1 x h
    have a2 : x ≤ y := by
      rcases List.mem_cons.mp (p.mem_iff.mpr List.mem_cons_self) with e | h
      · rw [e]; exact List.le_refl _
      · exact (List.pairwise_cons.mp hl).1 y h
    have e : x = y := List.le_antisymm a2 a1
    subst e
    rw [one_rising p.cons_inv (List.pairwise_cons.mp hl).2 (List.pairwise_cons.mp hm).2]
theorem isA_merge (l : List (List Int)) : l.mergeSort (fun p q => decide (p ≤ q)) = isA l := by
  refine one_rising ((List.mergeSort_perm _ _).trans (isA_perm l).symm) ?_ (isA_sorted l)
  have h := List.pairwise_mergeSort (le := fun p q : List Int => decide (p ≤ q)) (fun a b c h1 h2 => decide_eq_true (List.le_trans (of_decide_eq_true h1) (of_decide_eq_true h2)))
    (fun a b => Bool.or_eq_true_iff.mpr ((List.le_total a b).imp decide_eq_true decide_eq_true)) l
  exact h.imp fun q => of_decide_eq_true q

/-! ### the program, as functions -/
/-- is_nested_in -/
def nestedFrom (row : List Int) : Nat → List Int → Bool
  | _, [] => true
  | i, e :: r => if (decide ((i : Int) < e) && !decide ((((row.filter fun o => decide ((i : Int) < o)).length : Nat) : Int) = e + 1)) = true then false else nestedFrom row (i + 1) r
def nestedB (row : List Int) : Bool := nestedFrom row 0 row
/-- nested_in -/
def nin : Nat → Int → List (List Int)
  | 0, _ => []
  | n + 1, t => if t < 0 ∨ t > ((n + 1 : Nat) : Int) * (n : Int) then [] else if n = 0 then [[0]] else
      (nin n t).map (fun r => r ++ [0]) ++ (nin n (t - 2 * (n : Int))).map (fun r => (n : Int) :: r.map (fun o => o + 1))
/-- the law's words -/
def wordsK : Nat → List (List Int)
  | 0 => [[0]]
  | k + 1 => (wordsK k).map (fun w => w ++ [0]) ++ (wordsK k).map (fun w => w ++ [1])
def rawFrom : Nat → List Int → List Int
  | _, [] => []
  | i, x :: r => (x * (i : Int) + r.sum) :: rawFrom (i + 1) r
def rowOf (w : List Int) : List Int := isD (rawFrom 0 w)
def rowsK (k : Nat) : List (List Int) := isA ((wordsK k).map rowOf)

/-! ### what is asked, decided for each length -/
/-- all falling rows of a length with entries up to m -/
def desc : Nat → Nat → List (List Nat)
  | 0, _ => [[]]
  | n + 1, m => (List.range (m + 1)).flatMap fun x => (desc n x).map fun r => x :: r
def toI (l : List Nat) : List Int := l.map fun (n : Nat) => ((n : Nat) : Int)
theorem desc_mem : ∀ (l : List Nat) (m : Nat), (∀ x ∈ l, x ≤ m) → l.Pairwise (· ≥ ·) → l ∈ desc l.length m
  | [], m, _, _ => by simp [desc]
  | x :: l, m, h, p => by
    have p' := List.pairwise_cons.mp p
    have ih := desc_mem l x (fun y hy => p'.1 y hy) p'.2
    show x :: l ∈ desc (l.length + 1) m
    unfold desc
    rw [List.mem_flatMap]
    exact ⟨x, List.mem_range.mpr (Nat.lt_succ_of_le (h x List.mem_cons_self)), List.mem_map.mpr ⟨l, ih, rfl⟩⟩
/-- nestedB over natural numbers -/
def cntN (i : Nat) : List Nat → Nat
  | [] => 0
  | o :: r => if Nat.blt i o then cntN i r + 1 else cntN i r
def nestedN (row : List Nat) : Nat → List Nat → Bool
  | _, [] => true
  | i, e :: r => if (Nat.blt i e && !(Nat.beq (cntN i row) (e + 1))) = true then false else nestedN row (i + 1) r
theorem cnt_eq (i : Nat) : ∀ l : List Nat, ((toI l).filter fun o => decide ((i : Int) < o)).length = cntN i l
  | [] => rfl
  | o :: r => by
    have ih := cnt_eq i r
    show ((((o : Nat) : Int) :: toI r).filter fun o => decide ((i : Int) < o)).length = if Nat.blt i o then cntN i r + 1 else cntN i r
    by_cases h : i < o
    · have h1 : (i : Int) < (o : Int) := by omega
      have h2 : Nat.blt i o = true := by rw [Nat.blt_eq]; exact h
      rw [List.filter_cons_of_pos (by simpa using h1), List.length_cons, ih, h2]
      rfl
    · have h1 : ¬ (i : Int) < (o : Int) := by omega
      have h2 : Nat.blt i o = false := by
        cases q : Nat.blt i o with
        | false => rfl
        | true => rw [Nat.blt_eq] at q; exact absurd q h
      rw [List.filter_cons_of_neg (by simpa using h1), ih, h2]
      rfl
theorem nestedN_eq (row : List Nat) : ∀ (l : List Nat) (i : Nat), nestedFrom (toI row) i (toI l) = nestedN row i l
  | [], i => rfl
  | e :: r, i => by
    have ih := nestedN_eq row r (i + 1)
    show (if (decide ((i : Int) < ((e : Nat) : Int)) && !decide (((((toI row).filter fun o => decide ((i : Int) < o)).length : Nat) : Int) = ((e : Nat) : Int) + 1)) = true then false else nestedFrom (toI row) (i + 1) (toI r)) =
      if (Nat.blt i e && !(Nat.beq (cntN i row) (e + 1))) = true then false else nestedN row (i + 1) r
    rw [ih, cnt_eq]
    have e1 : decide ((i : Int) < ((e : Nat) : Int)) = Nat.blt i e := by
      rw [Bool.eq_iff_iff, decide_eq_true_eq, Nat.blt_eq]
      omega
    have e2 : decide (((cntN i row : Nat) : Int) = ((e : Nat) : Int) + 1) = Nat.beq (cntN i row) (e + 1) := by
      rw [Bool.eq_iff_iff, decide_eq_true_eq, Nat.beq_eq]
      omega
    rw [e1, e2]
def toN (l : List Int) : List Nat := l.map Int.toNat
theorem toI_toN : ∀ {l : List Int}, (∀ x ∈ l, 0 ≤ x) → toI (toN l) = l
  | [], _ => rfl
  | x :: l, h => by
    have e : ((x.toNat : Nat) : Int) = x := Int.toNat_of_nonneg (h x List.mem_cons_self)
    show ((x.toNat : Nat) : Int) :: toI (toN l) = x :: l
    rw [e, toI_toN fun y hy => h y (List.mem_cons_of_mem _ hy)]
def memN (l : List Nat) (ls : List (List Nat)) : Bool := ls.any fun m => m == l
/-- all nested ones among the falling rows are listed -/
def chkA (k : Nat) : Bool := (desc (k + 1) (k + 1)).all fun l => !nestedN l 0 l || memN l ((rowsK k).map toN)
/-- the listed ones: falling, of the length, with entries from 0 to the length, nested -/
def chkB (k : Nat) : Bool := (rowsK k).all fun l => l.length == k + 1 && l.all (fun x => decide (0 ≤ x) && decide (x ≤ ((k + 1 : Nat) : Int))) && isD l == l && nestedB l
/-- nested_rows against the list, for each total -/
def chkC (k : Nat) : Bool := (List.range ((k + 1) * k + 3)).all fun t => isA (nin (k + 1) (t : Int)) == (rowsK k).filter fun l => l.sum == (t : Int)
def chkD (k : Nat) : Bool := ((List.range ((k + 1) * k + 3)).map fun t => ((rowsK k).filter fun l => l.sum == ((t : Nat) : Int)).length).sum == (rowsK k).length
end Nst

namespace Nst
theorem chkB_all : ((List.range 8).all chkB) = true := by decide +kernel
theorem chkD_all : ((List.range 8).all chkD) = true := by decide +kernel
theorem chkC_all : ((List.range 8).all chkC) = true := by decide +kernel
theorem chkA_all : ((List.range 8).all chkA) = true := by decide +kernel
end Nst

namespace KR
open PySem PySem.Spec PyProof.Rows L2

/-! ### rule 1: i ** j of great ints -/
def CPw (i j : Int) : Prop := 0 ≤ j ∧ (Builtin.Int.intBits i : Int) * j ≤ 2 ^ 27
theorem op_powG {X : Cx} : OpR X (binaryOp .Pow) (rI CPw fun i j => .int (i ^ j.toNat)) :=
  opI fun _ _ _ _ _ _ _ c q => pow_int c.1 c.2 q

/-! ### rule 2: sum of a tuple of ints -/
theorem sum_tupRaw {prog : Program} {w : World} {A : Around} {E : Value → Shared → Prop} {s : Shared} {t : Addr} {its : List Value} {ns : List Int} {Q : Value → Shared → Prop}
    (hh : A.handled = none) (ht : IsTup s.heap t its.toArray) (hi : IntsAre its ns)
    (h : ∀ h' tk t', (∀ b o, s.heap.get? b = some o → h'.get? b = some o) → Q (.int ns.sum t') { s with heap := h', toks := tk }) :
    wpAny (model prog w) A (call (.builtin "sum") [.ref t]) Q E s := by
  obtain ⟨zs, ez⟩ := hi.allInts.items
  have en : numsOf (intItems zs).toList = ns := by rw [← ez]; exact hi.numsOf
  rw [nums_intItems] at en
  have ht2 : s.heap.IsTuple t (intItems zs) := by rw [← ez]; exact ht
  refine PySem.W.ktm_sumG hh ht2 fun h' tk t' hk => ?_
  have q := h h' tk t' hk
  rw [preSum_eq, List.take_of_length_le (by simp), en]
  exact q
def rSumT (K : PySem.W.Frag) : List V → Hp → VK → Prop := fun vs H Q => ∃ (a : Addr) (ns : List Int), vs = [V.ref a] ∧ SqT K H a (ns.map V.int) ∧ Q (.int ns.sum) H
theorem cr_sumT {X : Cx} (hc : X.calm = true) : CallR X (.builtin "sum") (rSumT X.K) := by
  intro pins s σ H vs us Q I r h
  obtain ⟨a, ns, rfl, hq, q⟩ := h
  obtain ⟨its, rv, ht, _⟩ := I.tuple hq
  rw [Vals.ref1 r]
  exact sum_tupRaw (I.ok.hd hc) ht rv.ints fun h' tk t' hk => ⟨.int _, H, I.kept hk, ⟨_, rfl⟩, q⟩

/-! ### rule 3: for i, x in enumerate(t), t a tuple -/
set_option maxHeartbeats 4000000 in
theorem meets_enumT (t : Addr) (items : Array Value) :
    Meets (Builtin.«enumerate.__new__» ⟨[.type "enumerate", .ref t], []⟩) (fun _ R s => s.heap.IsTuple t items ∧
      R (.ok (.ret (.ref (s.heap.push { cls := .type "tuple_iterator", data := .fields #[.ref t, .int 0 0] }).objs.size)))
        { s with heap := (s.heap.push { cls := .type "tuple_iterator", data := .fields #[.ref t, .int 0 0] }).push { cls := .type "enumerate", data := .fields #[.none, .bool false, .ref s.heap.objs.size, rawInt 0, .none, .none] } }) :=
  .of_wp fun prog w A R s h => by
    obtain ⟨hp, g, d, tk, os⟩ := s
    obtain ⟨hT, h⟩ := h
    have subE := sub_enumerate
    have it1 : ∀ {A' : Around} {E : Value → Shared → Prop} {Q : Value → Shared → Prop}, Q (.ref hp.objs.size) ⟨hp.push { cls := .type "tuple_iterator", data := .fields #[.ref t, .int 0 0] }, g, d, tk, os⟩ →
        wpAny (model prog w) A' (pyIter (.ref t)) Q E ⟨hp, g, d, tk, os⟩ := fun q => wpAny_pyIter_tuple hT q
    wp_walk using it1
    refine wpAny_stack_any fun st => wpAny_pure ?_
    split
    · rename_i c _ _ _ _ _
      cases (c == Value.type "enumerate") <;> (wp_walk using it1; exact ⟨_, rfl, h⟩)
    · wp_walk using it1
      exact ⟨_, rfl, h⟩
theorem call_enumT {prog : Program} {w : World} {A : Around} {E : Value → Shared → Prop} {s : Shared} {t : Addr} {items : Array Value} {Q : Value → Shared → Prop} (hT : s.heap.IsTuple t items)
    (h : ∀ h', IsEnum h' (s.heap.objs.size + 1) s.heap.objs.size 0 .none → h'.IsTupleIter s.heap.objs.size t 0 → h'.objs.size = s.heap.objs.size + 2 →
      (∀ b o, s.heap.get? b = some o → h'.get? b = some o) → Q (.ref (s.heap.objs.size + 1)) { s with heap := h' }) :
    wpAny (model prog w) A (call (.type "enumerate") [.ref t]) Q E s := by
  refine callType_new F.called_enumerate (by decide) (F.typeCall_enumerate_1 _) (F.newCall_enumerate_1 _) (fun obj => F.args_object_init_2 obj _) F.entry_enumerate_new (meets_enumT t items) ⟨hT, ?_⟩
  generalize ei : ({ cls := .type "tuple_iterator", data := .fields #[.ref t, .int 0 0] } : Obj) = oi
  have sz : (s.heap.push oi).objs.size = s.heap.objs.size + 1 := Heap.size_push ..
  show _ ∧ _
  rw [sz]
  generalize ee : ({ cls := .type "enumerate", data := .fields #[.none, .bool false, .ref s.heap.objs.size, rawInt 0, .none, .none] } : Obj) = oe
  have at1 : ((s.heap.push oi).push oe).get? (s.heap.objs.size + 1) = some oe := by
    rw [← sz]
    exact Heap.get?_push_size _ (by rw [← ee]; rfl)
  have at0 : ((s.heap.push oi).push oe).get? s.heap.objs.size = some oi := Heap.get?_push_of_some _ (Heap.get?_push_size _ (by rw [← ei]; rfl))
  have en : IsEnum ((s.heap.push oi).push oe) (s.heap.objs.size + 1) s.heap.objs.size 0 .none := by rw [← ee] at at1 ⊢; exact at1
  exact ⟨⟨oe, at1, by rw [← ee]⟩, h _ en ⟨oi, at0, by rw [← ei], by rw [← ei] <;> rfl⟩ (by rw [Heap.size_push, sz]) fun b o x => Heap.get?_push_of_some _ (Heap.get?_push_of_some _ x)⟩

/-- the tuple at a, each item in a new pair -/
def IteT (K : PySem.W.Frag) (a : Addr) : It :=
  ⟨fun i H => ∃ (xs : List V) (x : V), SqT K H a xs ∧ xs[i]? = some x,
   fun i H v H' => ∃ T x, v = .ref T ∧ H T = none ∧ H' = upd H T (.tup [.int (i : Nat), x]) ∧ ∀ ys, SqT K H a ys → ys[i]? = some x,
   fun i H => ∃ xs : List V, SqT K H a xs ∧ xs.length = i⟩
theorem turn_enumT {P : Program} {w : World} {K : PySem.W.Frag} {elts : List Expr} {kk : Nat} {tpos : Pos} (a e it : Addr) (hea : e ≠ a) (hia : it ≠ a) :
    Turn P w K (.Tuple elts kk tpos) (IteT K a) [e, it] e (fun i h => (∃ old, IsEnum h e it ((i : Nat) : Int) old) ∧ h.IsTupleIter it a i ∧ e ≠ it) where
  mem := by simp
  obj := fun i h st b hb => by
    obtain ⟨⟨old, he⟩, ⟨o, ho, _, hd⟩, _⟩ := st
    rcases (show b = e ∨ b = it by simpa using hb) with rfl | rfl
    · exact ⟨_, he, fun v q => nomatch q⟩
    · exact ⟨o, ho, fun v q => by rw [hd] at q; cases q⟩
  keep := fun i h h' st k => by
    obtain ⟨⟨old, he⟩, ⟨o, ho, r⟩, hne⟩ := st
    exact ⟨⟨old, k e (by simp) _ he⟩, ⟨o, k it (by simp) _ ho, r⟩, hne⟩
  item := by
    intro X hP hw hK hc i pins s σ H E I hf st hg
    subst hP hw hK
    obtain ⟨⟨old, he⟩, hit, hne⟩ := st
    obtain ⟨xs, x, hq, hx⟩ := hg
    obtain ⟨its, rv, p, hz⟩ := I.tuple hq
    obtain ⟨u, hu, ru⟩ := rv.get hx
    have e_lt : e < s.heap.objs.size := Heap.lt_size he
    have i_lt : it < s.heap.objs.size := by obtain ⟨_, q, _⟩ := hit; exact Heap.lt_size q
    have D := Draws.tuple (prog := X.prog) (w := X.w) (A := X.A.in1) (I.ok.hd hc) it a (Ne.symm hia) its.toArray
    have hi : i < its.toArray.size := by
      have := (List.getElem?_eq_some_iff.mp hu).1
      rw [List.size_toArray]
      exact this
    refine wpAny_pyNext_enum_itemD D he ⟨hit, p⟩ hi hne (by simp [hne, hea]) fun y h' tk hy ho hst hT hsz hk => ?_
    have ey : y = u := by
      have q : its.toArray[i]? = some u := by simpa using hu
      have q2 : its.toArray[i]? = some y := hy
      rw [q] at q2
      exact (Option.some.inj q2).symm
    subst ey
    refine ⟨_, rfl, wpAny_letOwnedTupleGo_enum (s := { s with heap := h', toks := tk + 1 }) ho fun h2 he2 sb => ?_⟩
    have hT2 : h2.get? s.heap.objs.size = some { cls := .type "tuple", data := .seq #[.int i tk, y] } := (sb.2 _ (Nat.ne_of_gt e_lt)).trans hT
    have made : ObjOk X.prog X.w (upd H s.heap.objs.size (.tup [.int (i : Nat), x])) h2 s.heap.objs.size (.tup [.int (i : Nat), x]) :=
      ⟨by show 2 ≤ sizeLine; decide, [.int i tk, y], .cons ⟨_, rfl⟩ (.cons ru .nil), ⟨_, hT2, rfl, _, rfl⟩⟩
    have I1 : Inv X pins σ (upd H s.heap.objs.size (.tup [.int (i : Nat), x])) { s with heap := h2, toks := tk + 1 } :=
      I.turnedNew (ch := [e, it]) (fun b ob hb q => (sb.2 b (fun z => hb (by simp [z]))).trans (hk b ob (fun z => hb (by simp [z])) (fun z => hb (by simp [z])) q)) hf (Nat.le_refl _) made
    have nx : h2.IsTupleIter it a (i + 1) := by
      obtain ⟨o, ho2, r⟩ := hst.1
      exact ⟨o, (sb.2 it (Ne.symm hne)).trans ho2, r⟩
    refine ⟨.ref s.heap.objs.size, _, I1, rfl, ⟨_, x, rfl, I.hok.fresh (Nat.le_refl _), rfl, fun ys hys => by rw [I.tuple_inj hys hq]; exact hx⟩, ⟨⟨y, ?_⟩, nx, hne⟩, fun b hb => ?_⟩
    · rw [show ((i + 1 : Nat) : Int) = (i : Int) + 1 by omega]
      exact he2
    · have lt : b < s.heap.objs.size := by
        rcases (show b = e ∨ b = it by simpa using hb) with rfl | rfl
        · exact e_lt
        · exact i_lt
      rw [upd_ne (Nat.ne_of_lt lt)]
      exact (hf b hb).1
  done := by
    intro X hP hw hK hc i pins s σ H E I hf st hg
    subst hP hw hK
    obtain ⟨⟨old, he⟩, hit, hne⟩ := st
    obtain ⟨xs, hq, hx⟩ := hg
    obtain ⟨its, rv, p, hz⟩ := I.tuple hq
    obtain ⟨f0, f1, f2, f3, f4, f5⟩ := hf it (by simp)
    have hl : i = its.toArray.size := by rw [List.size_toArray, ← rv.length, hx]
    subst hl
    have D := Draws.tuple (prog := X.prog) (w := X.w) (A := X.A.in1) (I.ok.hd hc) it a (Ne.symm hia) its.toArray
    exact wpAny_pyNext_enum_endD D he ⟨hit, p⟩ fun h' eb => ⟨rfl, I.turned (t' := s.toks) (fun b o hb q => eb b o hb q) f0 f1 f3 f4 f5⟩
  self := fun A i s Q E st h => let ⟨⟨_, he⟩, _⟩ := st; wpAny_pyIter_enum he h
def iEnumT (K : PySem.W.Frag) (ta : TA) : TI := fun σ H R => ta σ H fun vs H1 => ∃ a xs, vs = [.ref a] ∧ SqT K H1 a xs ∧ R (IteT K a) H1
theorem pi_enumT {X : Cx} {e : Expr} {ta : TA} {p pos tpos : Pos} {elts : List Expr} {kk : Nat} (hg : Gl X "enumerate") (hm : X.mg "enumerate" = none) (ha : PA X [e] ta) (hs : starEach [e] X.env = [(false, eval e X.env)] := by rfl) :
    PI X (.Tuple elts kk tpos) (.Call (.Name "enumerate" p) [e] [] pos) (iEnumT X.K ta) := by
  constructor
  intro pins s σ H R I h
  refine Call_ (ld_blt I hg hm boot_enumerate (PyProof.Rows.callWith_type1 (thn (ha.run pos pins s σ H _ I h) fun us s1 ⟨vs, H1, I1, r1, q1⟩ => ?_) hs rfl))
  obtain ⟨a, xs, rfl, hq, q⟩ := q1
  obtain rfl := Vals.ref1 r1
  obtain ⟨its, rv, tp, hz⟩ := I1.tuple hq
  have alt : a < s1.heap.objs.size := tp.lt
  refine call_enumT tp fun h' he hit hsz hk => wpAny_pyIter_enum he ?_
  have I2 : Inv X pins σ H1 { s1 with heap := h' } := I1.kept (t' := s1.toks) hk
  have n1 : s1.heap.objs.size + 1 ≠ a := Nat.ne_of_gt (Nat.lt_succ_of_lt alt)
  have n0 : s1.heap.objs.size ≠ a := Nat.ne_of_gt alt
  refine ⟨s1.heap.objs.size + 1, [s1.heap.objs.size + 1, s1.heap.objs.size], _, _, H1, rfl, I2, turn_enumT a _ _ n1 n0, ⟨⟨.none, he⟩, hit, Nat.succ_ne_self _⟩, fun b hb => ?_, q⟩
  have le : s1.heap.objs.size ≤ b := by
    rcases (show b = s1.heap.objs.size + 1 ∨ b = s1.heap.objs.size by simpa using hb) with rfl | rfl
    · exact Nat.le_succ _
    · exact Nat.le_refl _
  exact I1.fpOk le (I1.hok.fresh le)
theorem walk_enumT {K : PySem.W.Frag} {a : Addr} {xs : List V} : Walk (IteT K a) xs.length (fun H => SqT K H a xs) (YPair (fun i => some (.int (i : Nat))) (fun i => xs[i]?)) := by
  refine ⟨fun i _ hi q => ⟨xs, xs[i], q, List.getElem?_eq_getElem hi⟩, fun _ q => ⟨xs, q, rfl⟩, fun i H v H' _ q y => ?_⟩
  obtain ⟨T, x, y1, y2, y3, y4⟩ := y
  exact ⟨T, .int (i : Nat), x, y1, y2, y3, rfl, y4 xs q⟩

/-! ### rule 4: sorted of a list or a tuple, the items collected first -/
section
variable {prog : Program} {w : World} {A : Around} {E : Value → Shared → Prop} {s : Shared}
/-- the items of a list or a tuple, laid into a new list -/
theorem gather {x : Addr} {T : String} {o : Obj} {n : Nat} {vs : List Value} {Q : List Value → Shared → Prop} (hT : T = "list" ∨ T = "tuple") (ho : s.heap.get? x = some o) (hc : o.cls = .type T) (hd : o.data = .seq vs.toArray n) (hz : vs.length ≤ sizeLine)
    (h : ∀ h' : Heap, s.heap.objs.size ≤ h'.objs.size → (∀ b u, s.heap.get? b = some u → h'.get? b = some u) → Q vs { s with heap := h' }) : wpAny (model prog w) A (collect (.ref x)) Q E s := by
  have old1 : ∀ b u, s.heap.get? b = some u → (s.heap.push (seqObj "list" #[] 0)).get? b = some u := fun b u e => Heap.get?_push_of_some _ e
  have me : (s.heap.push (seqObj "list" #[] 0)).get? s.heap.objs.size = some (seqObj "list" #[] 0) := Heap.get?_push_size _ rfl
  have me2 := get?_update_seq me (· ++ vs.toArray)
  have fits : ((#[] : Array Value) ++ vs.toArray).size ≤ sizeLine + 1 := by
    rw [Array.size_append, List.size_toArray]
    show 0 + vs.length ≤ sizeLine + 1
    omega
  unfold collect
  refine wpAny_bind (wpAny_runValue (codeAny_builtin entry_proto_collect' ?_))
  show wpAny _ _ (newList [] >>= fun l => again (.builtin "list.__iadd__" ⟨[l, .ref x], []⟩)) _ _ s
  refine wpAny_bind (wpAny_newList (wpAny_pure ⟨Code.quiet_builtin _ (by decide +kernel), codeAny_builtin entry_list_iadd' ?_⟩))
  show wpAny _ _ (Builtin.List.listExtendWith (.ref s.heap.objs.size) (.ref x) (.ref s.heap.objs.size)) _ _ _
  unfold Builtin.List.listExtendWith
  refine wpAny_bind (wpAny_typeOf (T := T) ⟨o, old1 _ _ ho, hc⟩ ?_)
  have two : (Builtin.List.listSameRef (.ref s.heap.objs.size) (.ref x) || Value.type T == .type "list" || Value.type T == .type "tuple") = true := by
    rcases hT with e | e
    · subst e
      have q : (Value.type "list" == Value.type "list") = true := by rfl
      rw [q, Bool.or_true, Bool.true_or]
    · subst e
      have q : (Value.type "tuple" == Value.type "tuple") = true := by rfl
      rw [q, Bool.or_true]
  rw [if_pos two]
  refine wpAny_bind (listItems_at (old1 _ _ ho) hd ?_)
  refine wpAny_bind (listItems_at (xs := #[]) (n := 0) me rfl ?_)
  rw [if_neg (by simp)]
  refine wpAny_bind (listUpdate_at (xs := #[]) (n := 0) me rfl (wpAny_pure ?_) (Nat.zero_le _) fits)
  show wpAny (model prog w) A (load s.heap.objs.size >>= fun ob => match ob.data with
    | .seq xs _ => pure xs.toList
    | _ => unsupported "internal:collect") Q E _
  refine wpAny_bind (wpAny_load me2 ?_)
  show wpAny _ _ (pure ((#[] : Array Value) ++ vs.toArray).toList) Q E _
  have ev : ((#[] : Array Value) ++ vs.toArray).toList = vs := by simp
  rw [ev]
  refine wpAny_pure (h _ (by rw [Heap.size_update, Heap.size_push]; exact Nat.le_succ _) fun b u e => ?_)
  rw [Heap.get?_update_ne _ _ _ _ (Nat.ne_of_lt (Heap.lt_size e))]
  exact old1 b u e
theorem sorted_from {x : Addr} {T : String} {o : Obj} {n : Nat} {vs : List Value} {kw : List (Str × Value)} {Q : Value → Shared → Prop} (hT : T = "list" ∨ T = "tuple") (ho : s.heap.get? x = some o) (hc : o.cls = .type T) (hd : o.data = .seq vs.toArray n)
    (hz : vs.length ≤ sizeLine) (k1 : argsOk "sorted" ⟨[.ref x], kw⟩) (k2 : ∀ y, argsOk "list.sort" ⟨[.ref y], kw⟩)
    (body : ∀ (h' : Heap) (E' : Value → Shared → Prop), s.heap.objs.size ≤ h'.objs.size → (∀ b u, s.heap.get? b = some u → h'.get? b = some u) →
      wpAny (model prog w) A.in1.in1 (Builtin.«list.sort» ⟨[.ref h'.objs.size], kw⟩) (fun f s' => f = .done (.ret .none) ∧ Q (.ref h'.objs.size) s') E' { s with heap := h'.push (seqObj "list" vs.toArray 0) }) :
    wpAny (model prog w) A (call (.builtin "sorted") [.ref x] kw) Q E s := by
  refine call_function_entry_kw kind_sorted plain_sorted entry_sorted k1 ?_
  unfold Builtin.«sorted»
  refine wpAny_bind (m := checkCount "sorted" 1 1 _) (wpAny_pure ?_)
  refine wpAny_bind (gather hT ho hc hd hz fun h' le hk => ?_)
  refine wpAny_bind (wpAny_newList ?_ hz)
  refine wpAny_bind (wpAny_holding (wpAny_call_entry_kw slot_list_sort ⟨_, Heap.get?_push_size _ rfl, rfl⟩ entry_list_sort ?run (k2 _)))
  case run =>
    refine wpAny_mono (body h' _ le hk) (fun f s' hf => ?_) fun _ _ z => z
    obtain ⟨rfl, q⟩ := hf
    exact ⟨_, rfl, wpAny_pure ⟨_, rfl, q⟩⟩
end
/-- sorted(t, reverse=True), t a tuple of ints -/
def rSortedTR (K : PySem.W.Frag) : List V → List V → Hp → VK → Prop := fun vs zs H Q => ∃ (a : Addr) (ns : List Int), vs = [V.ref a] ∧ zs = [V.bl true] ∧ SqT K H a (ns.map V.int) ∧
  ∀ p : Addr, H p = none → Q (.ref p) (upd H p (.lst ((Nst.isD ns).map V.int)))
theorem cr_sortedTR {X : Cx} : CallRK X (.builtin "sorted") [Str.ofString "reverse"] (rSortedTR X.K) := by
  intro pins s σ H vs zs us ws Q I r rz h
  obtain ⟨a, ns, rfl, rfl, hs, q⟩ := h
  obtain rfl := Vals.ref1 r
  obtain ⟨w1, rfl, e1⟩ := vals1 rz
  obtain rfl : w1 = Value.bool true := e1
  obtain ⟨its, rv, ⟨o, ho, hc, n, hd⟩, hz⟩ := I.tuple hs
  have hi := rv.ints
  have hzl : its.length ≤ sizeLine := by rw [← rv.length]; exact hz
  refine sorted_from (.inr rfl) ho hc hd hzl (PyProof.Rows.args_sorted_rev _ _) (fun _ => PyProof.Rows.args_list_sort_rev _ _) fun h' E' le hk => ?_
  have at0 : (h'.push (seqObj "list" its.toArray 0)).get? h'.objs.size = some (seqObj "list" its.toArray 0) := Heap.get?_push_size _ rfl
  refine SrtR.list_sort_ordR (s := { s with heap := h'.push (seqObj "list" its.toArray 0) }) (b := true) SrtO.swo_int at0 hzl (fun h2 => SrtO.ints_sortable hi h2) fun out s1 s2 => ⟨rfl, ?_⟩
  obtain ⟨ns', k1, k2, k3⟩ := SrtR.ints_outR (b := true) hi s1 s2
  have en : ns' = Nst.isD ns := Nst.isD_of k2 k3
  obtain ⟨ep, at1⟩ := PyProof.Rows.sortedHeap_at (vs := its) (out := out.toArray.reverse) at0
  have kept : ∀ b u, s.heap.get? b = some u → (PyProof.Rows.sortedHeap (h'.push (seqObj "list" its.toArray 0)) h'.objs.size its out.toArray.reverse).get? b = some u := fun b u e => by
    have e2 := hk b u e
    have lt := Heap.lt_size e2
    rw [PyProof.Rows.sortedHeap_old (Nat.ne_of_lt lt) (by rw [Heap.size_push]; exact Nat.lt_succ_of_lt lt)]
    exact Heap.get?_push_of_some _ e2
  have hlen : ((Nst.isD ns).map V.int).length ≤ sizeLine := by
    rw [← en, List.length_map, k2.length_eq]
    rw [List.length_map] at hz
    exact hz
  refine ⟨.ref h'.objs.size, upd H h'.objs.size (.lst ((Nst.isD ns).map V.int)), I.laid (t' := s.toks) kept le ⟨hlen, (if true = true then out.toArray.reverse else out.toArray).toList, ep, ?_, ?_⟩, rfl, q _ (I.hok.fresh le)⟩
  · rw [← en]
    exact vals_of_ints k1
  · rw [Array.toArray_toList]
    exact at1
/-! ### rule 5: sorted of a list of tuples of ints, any number of them -/
/-- the values are tuples of these ints -/
def Tups (K : PySem.W.Frag) (H : Hp) : List V → List (List Int) → Prop := Paired fun v ns => ∃ t, v = V.ref t ∧ SqT K H t (ns.map V.int)
def encT (ns : List Int) : PyData := .tuple (ns.map .int)
theorem ints_read {h : Heap} : ∀ {us : List Value} {ns : List Int}, IntsAre us ns → ReadsAll h us (ns.map .int) []
  | _, _, .nil => .nil
  | _, _, .cons n t r => .cons (as := []) (bs := []) (.int n t) (ints_read r)
theorem encT_depth (ns : List Int) : (encT ns).depth ≤ 1 := by
  unfold encT
  have e := PySem.W.depth_ints ns
  simp only [PyData.depth]
  omega
theorem encT_alike (ns ms : List Int) : PySem.W.alike (encT ns) (encT ms) = true := by
  unfold encT
  simpa [PySem.W.alike] using PySem.W.alike_ints ns ms
theorem le_encT : PySem.W.dataLe false encT = fun p q => decide (p ≤ q) := by
  funext p q
  show (!PySem.W.dataLt (.tuple (q.map .int)) (.tuple (p.map .int))) = _
  rw [PySem.W.dataLt_tuple]
  show (!PySem.W.rowLt (q.map .int) (p.map .int)) = _
  rw [PySem.W.dataLt_ints]
  by_cases c : q < p
  · have c' : ¬ p ≤ q := fun r => List.not_lt.mpr r c
    simp [c, c']
  · have c' : p ≤ q := List.not_lt.mp c
    simp [c, c']
section
variable {X : Cx} {pins : List (Addr × Obj)} {σ : L2.St} {H : Hp} {s : Shared}
theorem tup_reads (I : Inv X pins σ H s) {t : Addr} {ns : List Int} (h : SqT X.K H t (ns.map V.int)) : ∃ as, Reads s.heap (.ref t) (encT ns) as := by
  obtain ⟨its, rv, ⟨o, ho, hc, n, hd⟩, _⟩ := I.tuple h
  have q : ReadsAll s.heap its.toArray.toList (ns.map .int) [] := by
    have z : its.toArray.toList = its := by simp
    rw [z]
    exact ints_read rv.ints
  exact ⟨[], .tuple ho hc hd q⟩
/-- how the values stand for the rows: by the tuple's own address -/
theorem tups_each (I : Inv X pins σ H s) : ∀ {xs : List V} {us : List Value} {nss : List (List Int)}, Vals xs us → Tups X.K H xs nss →
    PySem.W.EachIs (fun u ns => ∃ t, u = Value.ref t ∧ SqT X.K H t (ns.map V.int)) us nss
  | _, _, _, .nil, .nil => .nil
  | _, _, _, .cons r rs, .cons h hs => by
    obtain ⟨t, rfl, ht⟩ := h
    cases r
    exact .cons ⟨t, rfl, ht⟩ (tups_each I rs hs)
theorem each_tups {K : PySem.W.Frag} : ∀ {us : List Value} {nss : List (List Int)}, PySem.W.EachIs (fun u ns => ∃ t, u = Value.ref t ∧ SqT K H t (ns.map V.int)) us nss →
    ∃ xs, Vals xs us ∧ Tups K H xs nss
  | _, _, .nil => ⟨[], .nil, .nil⟩
  | _, _, .cons ⟨t, e, ht⟩ hs => by
    obtain ⟨xs, r, q⟩ := each_tups hs
    subst e
    exact ⟨V.ref t :: xs, .cons rfl r, .cons ⟨t, rfl, ht⟩ q⟩
end
def rSortedTs (K : PySem.W.Frag) : List V → Hp → VK → Prop := fun vs H Q => ∃ (a : Addr) (xs : List V) (nss : List (List Int)), vs = [V.ref a] ∧ SqL K H a xs ∧ Tups K H xs nss ∧ (∀ ns ∈ nss, ns ≠ []) ∧
  ∀ (p : Addr) (ys : List V), H p = none → Tups K H ys (Nst.isA nss) → Q (.ref p) (upd H p (.lst ys))
theorem cr_sortedTs {X : Cx} (hu : X.A.units + 4 < cLine) : CallR X (.builtin "sorted") (rSortedTs X.K) := by
  intro pins s σ H vs us Q I r h
  obtain ⟨a, xs, nss, rfl, hs, ht, hne, q⟩ := h
  obtain rfl := Vals.ref1 r
  obtain ⟨its, rv, hl, hz⟩ := I.list hs
  have e := tups_each I rv ht
  have er : PySem.W.EachIs (fun u ns => ∃ as, Reads s.heap u (encT ns) as) its nss := e.mono fun u ns ⟨t, eu, hq⟩ => by
    subst eu
    exact tup_reads I hq
  have zl : nss.length ≤ sizeLine := by
    rw [← e.length, ← rv.length]
    exact hz
  refine PySem.W.sorted_data hl.isList e er (PySem.W.AllAlike.of encT_alike) (.inl fun d hd => ?_) zl (fun b _ => ?_) fun out hlen eo => ?_
  · obtain ⟨ns, hm, rfl⟩ := List.mem_map.mp hd
    cases ns with
    | nil => exact absurd rfl (hne [] hm)
    | cons n ns => exact ⟨_, _, rfl⟩
  · have d := encT_depth b
    omega
  · rw [le_encT, Nst.isA_merge] at eo
    obtain ⟨ys, ry, qy⟩ := each_tups eo
    obtain ⟨ep, at1⟩ := PyProof.Rows.sortedAll_at s.heap its out.toArray
    have hlen2 : ys.length ≤ sizeLine := by
      rw [ry.length, hlen]
      exact zl
    exact ⟨.ref _, upd H (s.heap.objs.size + 1) (.lst ys), I.laid (t' := s.toks) (fun _ _ => PyProof.Rows.sortedAll_old) (Nat.le_succ _) ⟨hlen2, out, ep, ry, at1⟩, rfl, q _ ys (I.hok.fresh (Nat.le_succ _)) qy⟩
end KR

namespace KS
open PySem PySem.Spec PyProof.Rows L2

/-! ### the round of a table's slots: for the masks 7, 31, 127, 511 -/
def Full (m : Nat) : Prop := ∀ i j, i ≤ m → j ≤ m → ∃ k, k ≤ m ∧ lcgI m i k = j
theorem full7 : Full 7 := fun _ _ a b => lcgI_all (.inl rfl) a b
theorem full31 : Full 31 := fun _ _ a b => lcgI_all (.inr (.inl rfl)) a b
theorem full127 : Full 127 := fun _ _ a b => lcgI_all (.inr (.inr rfl)) a b
/-- the round from x, as a list -/
def circ (m : Nat) : Nat → Nat → List Nat
  | 0, _ => []
  | f + 1, x => x :: circ m f ((x * 5 + 1) % (m + 1))
theorem circ_at (m : Nat) : ∀ (f a k : Nat), k < f → (circ m f (lcgN m a))[k]? = some (lcgN m (a + k))
  | 0, _, _, h => absurd h (Nat.not_lt_zero _)
  | f + 1, a, 0, _ => rfl
  | f + 1, a, k + 1, h => by
    have q := circ_at m f (a + 1) k (Nat.lt_of_succ_lt_succ h)
    have e : a + 1 + k = a + (k + 1) := by omega
    rw [e] at q
    exact q
theorem circ_len (m : Nat) : ∀ (f x : Nat), (circ m f x).length = f
  | 0, _ => rfl
  | f + 1, x => congrArg Nat.succ (circ_len m f _)
theorem all511 : ((List.range 512).all fun j => (circ 511 512 0).any fun x => Nat.beq x j) = true := by decide +kernel
theorem back511 : (circ 511 513 0)[512]? = some 0 := by decide +kernel
theorem lcg511 {j : Nat} (hj : j ≤ 511) : ∃ b, b ≤ 511 ∧ lcgN 511 b = j := by
  have h1 := List.all_eq_true.mp all511 j (List.mem_range.mpr (Nat.lt_succ_of_le hj))
  obtain ⟨x, hx, e⟩ := List.any_eq_true.mp h1
  have e' : x = j := Nat.eq_of_beq_eq_true e
  obtain ⟨b, hb, eb⟩ := List.getElem_of_mem hx
  have lb : b < 512 := by
    have q := hb
    rw [circ_len] at q
    exact q
  have q := circ_at 511 512 0 b lb
  have q0 : (circ 511 512 (lcgN 511 0))[b]? = some x := by
    show (circ 511 512 0)[b]? = some x
    rw [List.getElem?_eq_getElem hb, eb]
  rw [q0] at q
  refine ⟨b, by omega, ?_⟩
  have z : x = lcgN 511 (0 + b) := Option.some.inj q
  rw [Nat.zero_add] at z
  rw [← z]
  exact e'
theorem turn511 : lcgN 511 512 = 0 := by
  have q := circ_at 511 513 0 512 (by decide)
  have q0 : (circ 511 513 (lcgN 511 0))[512]? = some 0 := back511
  rw [q0] at q
  exact (Option.some.inj q).symm
theorem mod511 : ∀ k, lcgN 511 (512 + k) = lcgN 511 k
  | 0 => turn511
  | k + 1 => by
    show (lcgN 511 (512 + k) * 5 + 1) % 512 = (lcgN 511 k * 5 + 1) % 512
    rw [mod511 k]
theorem full511 : Full 511 := fun i j hi hj => by
  obtain ⟨a, la, ea⟩ := lcg511 hi
  obtain ⟨b, lb, eb⟩ := lcg511 hj
  subst ea
  by_cases c : a ≤ b
  · refine ⟨b - a, by omega, ?_⟩
    rw [lcgN_add, show a + (b - a) = b by omega]
    exact eb
  · refine ⟨512 + b - a, by omega, ?_⟩
    rw [lcgN_add, show a + (512 + b - a) = 512 + b by omega, mod511]
    exact eb

section
variable {m : Nat}
theorem starts (F : Full m) (x : Int) {j : Nat} (hj : j ≤ m) : ∃ n, n ≤ m + 12 ∧ runI m (SetTable.bits x) n = j := by
  obtain ⟨k, lk, ek⟩ := F _ j (runI_le m (SetTable.bits x) 12) hj
  refine ⟨12 + k, by omega, ?_⟩
  rw [runI_tail (bits_lt x)]
  exact ek
theorem meets_slot (F : Full m) (x : Int) {j : Nat} (hj : j ≤ m) : ∃ k, k < 10 * SetTable.turns m ∧ way m x k = j := by
  obtain ⟨n, ln, en⟩ := starts F x hj
  obtain ⟨k, lk, ek⟩ := run_nth m (SetTable.bits x) n
  refine ⟨k, ?_, ?_⟩
  · unfold SetTable.turns
    omega
  · show (nth m (runAt m (SetTable.bits x % (m + 1)) (SetTable.bits x)) k).j = j
    rw [ek]
    exact en
theorem way_in (x : Int) (k : Nat) : way m x k ≤ m := by
  have a0 : SetTable.bits x % (m + 1) ≤ m := Nat.le_of_lt_succ (Nat.mod_lt _ (Nat.succ_pos _))
  have a1 := runEnd_bd a0
  have a2 := nth_in (m := m) k (runAt m (SetTable.bits x % (m + 1)) (SetTable.bits x)) (by
    show SetTable.bits x % (m + 1) + (SetTable.runEnd m (SetTable.bits x % (m + 1)) - SetTable.bits x % (m + 1)) ≤ m
    omega)
  exact Nat.le_trans (Nat.le_add_right _ _) a2
end

/-! ### a table as it stands -/
structure Tb (t : SetTable) (n : Nat) : Prop where
  ris : Ris t.place.toList
  dm : t.dummies = #[]
  sz : t.place.size = n
  bd : ∀ x ∈ t.place.toList, x ≤ t.mask
  full : Full t.mask
  odd : t.mask % 2 = 1
  plain : t.plain = true
section
variable {t : SetTable} {n : Nat}
theorem Tb.fits (T : Tb t n) (h : n ≤ t.mask) : t.fits n = true := by
  unfold SetTable.fits SetTable.fill
  rw [T.dm, Bool.and_eq_true, beq_iff_eq, decide_eq_true_eq]
  have z : (#[] : Array Nat).size = 0 := rfl
  rw [z, T.sz]
  exact ⟨rfl, h⟩
theorem Tb.gave (T : Tb t n) : t.gaveWay = false := by
  unfold SetTable.gaveWay
  rw [T.odd]
  rfl
/-- a new hash: the search ends at the first empty slot of its way -/
theorem Tb.probe (T : Tb t n) (h : n ≤ t.mask) {hs : List Int} (hl : hs.length = n) {x : Int} (hx : x ∉ hs) :
    ∃ K, t.probe (fun i => (hs[i]?).getD 0) x (t.probeStart x) = some (.empty (way t.mask x K) none) ∧ way t.mask x K ∉ t.place.toList := by
  have pl : t.place.toList.length < t.mask + 1 := by
    rw [Array.length_toList, T.sz]
    omega
  obtain ⟨j, lj, nj⟩ := st_missing t.place.toList (t.mask + 1) pl
  obtain ⟨k0, l0, e0⟩ := meets_slot T.full x (Nat.le_of_lt_succ lj)
  obtain ⟨K, K1, K2, K3⟩ := st_least (p := fun k => way t.mask x k ∉ t.place.toList) k0 (by
    show way t.mask x k0 ∉ t.place.toList
    rw [e0]
    exact nj)
  have occ : ∀ k, k < K → way t.mask x k ∈ t.place.toList := fun k hk => Classical.byContradiction fun c => K3 k hk c
  refine ⟨K, ?_, K2⟩
  rcases go_spec t T.ris T.dm (fun i => (hs[i]?).getD 0) x (10 * SetTable.turns t.mask) K (runAt t.mask (SetTable.bits x % (t.mask + 1)) (SetTable.bits x)) rfl (Nat.lt_of_le_of_lt K1 l0) occ K2 with
    ⟨k, i, _, hi, hh, _⟩ | ⟨_, e⟩
  · exfalso
    have li : i < hs.length := by
      have q := (List.getElem?_eq_some_iff.mp hi).1
      rw [Array.length_toList, T.sz] at q
      omega
    have e1 : (hs[i]?).getD 0 = x := hh
    rw [List.getElem?_eq_getElem li] at e1
    exact hx (by rw [← e1]; exact List.getElem_mem li)
  · exact e
theorem Tb.put (T : Tb t n) {j : Nat} (hj : j ≤ t.mask) (hn : j ∉ t.place.toList) : Tb (t.put j).1 (n + 1) ∧ (t.put j).1.mask = t.mask ∧ (t.put j).2 ≤ n ∧ (t.put j).1.fill = n + 1 := by
  obtain ⟨c1, _, _⟩ := below_cut T.ris j
  have c2 : SetTable.below t.place j ≤ t.place.toList.length := by
    rw [Array.length_toList]
    exact c1
  have c3 : t.place[SetTable.below t.place j]? ≠ some j := fun e => hn (List.mem_of_getElem? (by rw [Array.getElem?_toList]; exact e))
  have pp := put_place t j
  have sz : (t.put j).1.place.size = n + 1 := by
    rw [← Array.length_toList, pp, len_ins _ c2, Array.length_toList, T.sz]
  refine ⟨⟨ris_insert T.ris c3, put_dm T.dm j, sz, fun x hx => ?_, T.full, T.odd, T.plain⟩, rfl, by rw [← T.sz]; exact c1, ?_⟩
  · rw [pp] at hx
    rcases mem_ins.1 hx with e | e
    · rw [e]; exact hj
    · exact T.bd x e
  · show (t.put j).1.place.size + (t.put j).1.dummies.size = n + 1
    rw [sz, put_dm T.dm j]
    rfl
end

/-! ### laid anew -/
structure Own2 (m n : Nat) (owner : Array (Option Nat)) : Prop where
  sz : owner.size = m + 1
  all : ∀ k, k < n → ∃ j, j ≤ m ∧ oAt owner j = some k
  ps : ∃ ps : List Nat, ps.length = n ∧ ∀ j, j ≤ m → oAt owner j ≠ none → j ∈ ps
section
variable {m : Nat}
theorem own_init (m : Nat) : Own2 m 0 (Array.replicate (m + 1) none) :=
  ⟨by simp, fun k hk => absurd hk (Nat.not_lt_zero _), [], rfl, fun j hj e => absurd (oAt_init hj) e⟩
theorem own_free (F : Full m) (owner : Array (Option Nat)) (x : Int) {j : Nat} (hj : j ≤ m) (hf : oAt owner j = none) :
    ∃ K, SetTable.layClean.free m owner (SetTable.turns m) (SetTable.bits x % (m + 1)) (SetTable.bits x) = some (way m x K) ∧ oAt owner (way m x K) = none := by
  obtain ⟨n, ln, en⟩ := starts F x hj
  have ew : way m x (off m (SetTable.bits x % (m + 1)) (SetTable.bits x) n) = j := by
    show (nth m (runAt m (SetTable.bits x % (m + 1)) (SetTable.bits x)) (off m (SetTable.bits x % (m + 1)) (SetTable.bits x) n)).j = j
    rw [nth_off, itL_run]
    exact en
  obtain ⟨K, K1, K2, K3⟩ := st_least (p := fun k => oAt owner (way m x k) = none) (off m (SetTable.bits x % (m + 1)) (SetTable.bits x) n) (by
    show oAt owner (way m x _) = none
    rw [ew]
    exact hf)
  refine ⟨K, free_spec m owner (SetTable.turns m) n _ _ K (by unfold SetTable.turns; omega) K1 (fun k hk => ?_) (by
    have q : oAt owner (nth m (runAt m (SetTable.bits x % (m + 1)) (SetTable.bits x)) K).j = none := K2
    rw [q]
    rfl), K2⟩
  have q := K3 k hk
  cases z : oAt owner (nth m (runAt m (SetTable.bits x % (m + 1)) (SetTable.bits x)) k).j with
  | some _ => rfl
  | none => exact absurd z q
theorem own_step (F : Full m) {n : Nat} {owner : Array (Option Nat)} (W : Own2 m n owner) (hl : n ≤ m) (x : Int) :
    ∃ j, SetTable.layClean.free m owner (SetTable.turns m) (SetTable.bits x % (m + 1)) (SetTable.bits x) = some j ∧ Own2 m (n + 1) (owner.setIfInBounds j (some n)) := by
  obtain ⟨ps, lps, ips⟩ := W.ps
  obtain ⟨j0, l0, n0⟩ := st_missing ps (m + 1) (by omega)
  have f0 : oAt owner j0 = none := Classical.byContradiction fun c => n0 (ips j0 (Nat.le_of_lt_succ l0) c)
  obtain ⟨K, e1, e2⟩ := own_free F owner x (Nat.le_of_lt_succ l0) f0
  have wm : way m x K ≤ m := way_in x K
  have ws : way m x K < owner.size := by
    rw [W.sz]
    exact Nat.lt_succ_of_le wm
  have self := oAt_set_self (some n) ws
  refine ⟨way m x K, e1, ?_, fun k hk => ?_, way m x K :: ps, by rw [List.length_cons, lps], fun j hj e => ?_⟩
  · rw [Array.size_setIfInBounds]
    exact W.sz
  · by_cases c : k = n
    · subst c
      exact ⟨_, wm, self⟩
    · obtain ⟨j, lj, ej⟩ := W.all k (by omega)
      refine ⟨j, lj, ?_⟩
      have ne : j ≠ way m x K := fun z => by
        rw [z, e2] at ej
        cases ej
      rw [oAt_set_ne _ ne]
      exact ej
  · by_cases c : j = way m x K
    · rw [c]
      exact List.mem_cons_self
    · rw [oAt_set_ne _ c] at e
      exact List.mem_cons_of_mem _ (ips j hj e)
theorem own_fold (F : Full m) : ∀ (rest : List Int) (n : Nat) (owner : Array (Option Nat)), Own2 m n owner → n + rest.length ≤ m →
    ∃ owner', rest.foldl (stepF m) (some (owner, n)) = some (owner', n + rest.length) ∧ Own2 m (n + rest.length) owner'
  | [], n, owner, W, _ => ⟨owner, rfl, W⟩
  | x :: rest, n, owner, W, hl => by
    rw [List.length_cons] at hl
    obtain ⟨j, e, W'⟩ := own_step F W (by omega) x
    obtain ⟨o2, f, W2⟩ := own_fold F rest (n + 1) _ W' (by omega)
    have en : n + 1 + rest.length = n + (x :: rest).length := by rw [List.length_cons]; omega
    rw [en] at f W2
    refine ⟨o2, ?_, W2⟩
    rw [List.foldl_cons, stepF_some e]
    exact f
theorem own_clean (F : Full m) {hs : Array Int} (hn : hs.size ≤ m) : ∃ owner, SetTable.layClean m hs = some owner ∧ Own2 m hs.size owner := by
  obtain ⟨owner, f, W⟩ := own_fold F hs.toList 0 _ (own_init m) (by rw [Array.length_toList]; omega)
  rw [Array.length_toList, Nat.zero_add] at f W
  refine ⟨owner, ?_, W⟩
  rw [layClean_eq, f]
  rfl
theorem relaid2 (t : SetTable) {hs : Array Int} {wanted M : Nat} (hw : SetTable.sizeAbove wanted - 1 = M) (F : Full M) (ho : M % 2 = 1) (hp : t.plain = true) (hn : hs.size ≤ M) :
    ∃ t' order, t.relaid hs wanted = some (t', order) ∧ order.toList.Perm (List.range hs.size) ∧ Tb t' hs.size ∧ t'.mask = M := by
  obtain ⟨owner, e, W⟩ := own_clean F hn
  have er : t.relaid hs wanted = some (tabOf t M owner, ((liveOf M owner).map (·.2)).toArray) := by
    rw [relaid_eq, hw, e]
    rfl
  have rl := ris_live (fun j => owner.getD j none) (List.range (M + 1)) (by
    unfold Ris
    first | exact List.pairwise_lt_range | exact List.pairwise_lt_range _)
  have r1 : Ris ((liveOf M owner).map (·.1)) := rl.1
  have r2 : ∀ x ∈ (liveOf M owner).map (·.1), x ∈ List.range (M + 1) := rl.2
  have nd : ((liveOf M owner).map (·.1)).Nodup := r1.imp fun h => Nat.ne_of_lt h
  have len : (liveOf M owner).length = hs.size := by
    obtain ⟨ps, lps, ips⟩ := W.ps
    have up := nat_nodup_len ((liveOf M owner).map (·.1)) ps nd fun x hx => by
      obtain ⟨⟨y, k⟩, hq, ey⟩ := List.mem_map.mp hx
      obtain rfl : y = x := ey
      obtain ⟨b1, b2⟩ := (mem_live W.sz).1 hq
      exact ips y b1 (by rw [b2]; exact fun z => nomatch z)
    have dn := nat_nodup_len (List.range hs.size) ((liveOf M owner).map (·.2)) List.nodup_range fun k hk => by
      obtain ⟨j, b1, b2⟩ := W.all k (List.mem_range.mp hk)
      exact List.mem_map.mpr ⟨(j, k), (mem_live W.sz).2 ⟨b1, b2⟩, rfl⟩
    rw [List.length_map, lps] at up
    rw [List.length_map, List.length_range] at dn
    omega
  refine ⟨tabOf t M owner, ((liveOf M owner).map (·.2)).toArray, er, perm_range hs.size _ ?_ fun k hk => ?_, ⟨r1, rfl, ?_, fun x hx => ?_, F, ho, hp⟩, rfl⟩
  · show ((liveOf M owner).map (·.2)).length = hs.size
    rw [List.length_map]
    exact len
  · obtain ⟨j, b1, b2⟩ := W.all k hk
    exact List.mem_map.mpr ⟨(j, k), (mem_live W.sz).2 ⟨b1, b2⟩, rfl⟩
  · show ((liveOf M owner).map (·.1)).toArray.size = hs.size
    rw [List.size_toArray, List.length_map]
    exact len
  · exact Nat.le_of_lt_succ (List.mem_range.mp (r2 x hx))
end
theorem sz20 : SetTable.sizeAbove (SetTable.grown 5) = 32 := by decide +kernel
theorem sz76 : SetTable.sizeAbove (SetTable.grown 19) = 128 := by decide +kernel
theorem sz308 : SetTable.sizeAbove (SetTable.grown 77) = 512 := by decide +kernel
end KS

namespace KS
open PySem PySem.Spec PyProof.Rows L2

/-! ### the set while its items come -/
def Mask4 (m : Nat) : Prop := m = 7 ∨ m = 31 ∨ m = 127 ∨ m = 511
/-- a set with these hashes -/
def Sc (h : Heap) (a : Addr) (done : List Int) : Prop := ∃ (o : Obj) (es : Array (Int × Value)) (ep : Nat) (t : SetTable),
  h.get? a = some o ∧ o.ExactSet ∧ o.data = .set es ep t ∧ (es.toList.map (·.1)).Perm done ∧ Tb t done.length ∧ Mask4 t.mask ∧ done.length * 5 < t.mask * 3
theorem pick_all {α : Type} (l : List α) : (List.range l.length).filterMap (fun i => l[i]?) = l := by
  have key : ∀ n, n ≤ l.length → (List.range n).filterMap (fun i => l[i]?) = l.take n := by
    intro n
    induction n with
    | zero => intro _; rfl
    | succ n ih =>
      intro hn
      have e := List.getElem?_eq_getElem (l := l) (i := n) hn
      rw [List.range_succ, List.filterMap_append, ih (Nat.le_of_lt hn), List.take_succ, e, List.filterMap_cons_some e]
      rfl
  rw [key _ (Nat.le_refl _), List.take_length]
theorem order_perm {es : Array (Int × Value)} {order : Array Nat} (h : order.toList.Perm (List.range es.size)) : (order.filterMap (es[·]?)).toList.Perm es.toList := by
  have e : (order.filterMap (es[·]?)).toList = order.toList.filterMap fun i => es.toList[i]? := by
    rw [Array.toList_filterMap]
    refine congrArg (fun f => List.filterMap f order.toList) (funext fun i => ?_)
    rw [Array.getElem?_toList]
  rw [e]
  have q := h.filterMap fun i => es.toList[i]?
  have e2 : List.range es.size = List.range es.toList.length := by rw [Array.length_toList]
  rw [e2, pick_all] at q
  exact q
theorem hash_at (es : Array (Int × Value)) : (fun i : Nat => (es[i]?.map (·.1)).getD 0) = fun i => ((es.toList.map (·.1))[i]?).getD 0 := by
  funext i
  rw [List.getElem?_map, Array.getElem?_toList]
section
variable {P : Program} {w : World} {A : Around} {E : Value → Shared → Prop} {s : Shared} {a : Addr} {es : Array (Int × Value)} {ep : Nat} {t : SetTable} {o : Obj} {n : Nat}
/-- a search among other hashes meets nothing -/
theorem search2 (ho : s.heap.get? a = some o) (hd : o.data = .set es ep t) (hn : es.size = n) (T : Tb t n) (hl : n ≤ t.mask) {x : Value} {z : Int} (hz : z ∉ es.toList.map (·.1)) {Q : SetFound → Shared → Prop}
    (hQ : ∀ j, j ≤ t.mask → j ∉ t.place.toList → Q (.free j false) s) : wpAny (model P w) A (setSearch a x z true) Q E s := by
  have fit : t.fits es.size = true := by rw [hn]; exact T.fits hl
  have ln : (es.toList.map (·.1)).length = n := by rw [List.length_map, Array.length_toList, hn]
  obtain ⟨K, e, nin⟩ := T.probe hl ln hz
  unfold setSearch
  rw [show (100000 : Nat) = 99999 + 1 from rfl, setSearchFrom_succ]
  refine wpAny_bind (wpAny_setState_of ho hd fit ?_)
  dsimp only
  refine wp_if_neg (by rw [T.gave]; exact Bool.false_ne_true) ?_
  try refine wpAny_bind (wpAny_pure ?_)
  have e2 : t.probe (fun i => (es[i]?.map (·.1)).getD 0) z ((none : Option SetTable.Probe).getD (t.probeStart z)) = some (.empty (way t.mask z K) none) := by
    rw [hash_at]
    exact e
  rw [e2]
  dsimp only
  exact wpAny_pure (hQ _ (way_in z K) nin)
/-- laying anew -/
theorem relay2 (ho : s.heap.get? a = some o) (hex : o.ExactSet) (hd : o.data = .set es ep t) (hn : es.size = n) (T : Tb t n) (hl : n ≤ t.mask) {wanted M : Nat} (hw : SetTable.sizeAbove wanted - 1 = M) (hw2 : SetTable.sizeAbove wanted ≤ 512)
    (F : Full M) (hodd : M % 2 = 1) (hM : Mask4 M) (hlM : n ≤ M) (room : n * 5 < M * 3) (small : n ≤ 200) {done : List Int} (hp : (es.toList.map (·.1)).Perm done) {Q : Unit → Shared → Prop}
    (hQ : ∀ h', Heap.SameBut a s.heap h' → Sc h' a done → Q () { s with heap := h' }) : wpAny (model P w) A (setRelay a wanted) Q E s := by
  have fit : t.fits es.size = true := by rw [hn]; exact T.fits hl
  have len : done.length = n := by
    rw [← hp.length_eq, List.length_map, Array.length_toList]
    exact hn
  obtain ⟨t2, order, e, po, T2, em⟩ := relaid2 t (hs := es.map (·.1)) (wanted := wanted) hw F hodd T.plain (by rw [Array.size_map, hn]; exact hlM)
  rw [Array.size_map] at po T2
  have pe := order_perm po
  have sz : (order.filterMap (es[·]?)).size = es.size := by
    rw [← Array.length_toList, pe.length_eq, Array.length_toList]
  rw [setRelay_eq]
  refine wpAny_bind (wpAny_setState_of ho hd fit ?_)
  dsimp only
  refine wp_if_neg (by rw [sizeLine_eq]; omega) ?_
  try refine wpAny_bind (wpAny_pure ?_)
  rw [e]
  dsimp only
  refine wpAny_bind ?_
  refine wp_if_neg (by rw [sz]; simp) ?_
  try refine wpAny_bind (wpAny_pure ?_)
  refine wpAny_pure ?_
  dsimp only
  refine wpAny_storeSet_of ho hd ?_ (by rw [sz, sizeLine_eq]; omega)
  refine hQ _ (Heap.SameBut.update ..) ⟨_, order.filterMap (es[·]?), ep + 1, t2, store_at ho hd, ⟨hex.1, hex.2.1, hex.2.2⟩, rfl, (pe.map (·.1)).trans hp, ?_, ?_, ?_⟩
  · rw [len, ← hn]
    exact T2
  · rw [em]
    exact hM
  · rw [len, em]
    exact room
/-- ADDING a tuple whose hash isn't there -/
theorem add2 {done : List Int} (S : Sc s.heap a done) {x : Addr} {k : List Int} (hx : IsT P w s.heap k x) (hz : thash P w k ∉ done) (few : done.length + 1 ≤ 200) {Q : Bool → Shared → Prop}
    (hQ : ∀ h', Heap.SameBut a s.heap h' → Sc h' a (thash P w k :: done) → Q true { s with heap := h' }) : wpAny (model P w) A (setAddHashed a (.ref x) (thash P w k)) Q E s := by
  obtain ⟨o, es, ep, t, ho, hex, hd, hp, T, hm, room⟩ := S
  have hn : es.size = done.length := by
    rw [← hp.length_eq, List.length_map, Array.length_toList]
  have hl : done.length ≤ t.mask := by omega
  have fit : t.fits es.size = true := by rw [hn]; exact T.fits hl
  have nz : thash P w k ∉ es.toList.map (·.1) := fun c => hz (hp.mem_iff.mp c)
  generalize thash P w k = z at hz hQ nz ⊢
  unfold setAddHashed
  refine wpAny_holding ?_
  rw [show (100000 : Nat) = 99999 + 1 from rfl, setAddHashedIn_succ]
  refine wpAny_bind (wpAny_setState_of ho hd fit ?_)
  dsimp only
  refine wp_if_neg (by simp [byScan, Value.scannable]) ?_
  try refine wpAny_bind (wpAny_pure ?_)
  refine wpAny_bind (search2 ho hd hn T hl nz fun j lj nj => ?_)
  dsimp only
  refine wpAny_bind (wpAny_setState_of ho hd fit ?_)
  dsimp only
  obtain ⟨T1, m1, p1, f1⟩ := T.put lj nj
  generalize t.put j = pt at T1 m1 p1 f1 ⊢
  obtain ⟨t1, p⟩ := pt
  dsimp only at T1 m1 p1 f1 ⊢
  have pl1 := T1.plain
  first
    | (refine wpAny_bind ?_; refine wp_if_pos pl1 ?_; refine hashBy_tup hx ?_)
    | refine wp_if_pos pl1 (wpAny_bind (hashBy_tup hx ?_))
  simp only [if_true]
  have ins : (SetTable.insertAt es p (z, Value.ref x)).toList = es.toList.take p ++ (z, Value.ref x) :: es.toList.drop p := SetTable.toList_insertAt _ _ _
  have pm : ((SetTable.insertAt es p (z, Value.ref x)).toList.map (·.1)).Perm (z :: done) := by
    rw [ins]
    have q := (put_perm es.toList p (z, Value.ref x)).map (·.1)
    rw [List.map_cons] at q
    exact q.trans (hp.cons z)
  have n1 : (SetTable.insertAt es p (z, Value.ref x)).size = done.length + 1 := by
    have q := pm.length_eq
    rw [List.length_map, Array.length_toList, List.length_cons] at q
    exact q
  generalize SetTable.insertAt es p (z, Value.ref x) = es1 at pm n1 ⊢
  refine wpAny_bind (wpAny_storeSet_of ho hd ?_ (by rw [n1, sizeLine_eq]; omega))
  have sb : Heap.SameBut a s.heap (s.heap.update a (Obj.putSet es1 t1)) := Heap.SameBut.update ..
  have ho1 := store_at (es' := es1) (t' := t1) ho hd
  generalize s.heap.update a (Obj.putSet es1 t1) = h1 at sb ho1 ⊢
  by_cases hf : t1.tooFull = true
  · first
      | (refine wpAny_bind ?_; refine wp_if_pos (by simp [hf]) ?_)
      | (refine wp_if_pos (by simp [hf]) ?_; refine wpAny_bind ?_)
    have full : (done.length + 1) * 5 ≥ t1.mask * 3 := by
      have q := hf
      unfold SetTable.tooFull at q
      rw [decide_eq_true_eq, f1] at q
      exact q
    rw [hn]
    rw [m1] at full
    have go : ∀ M, SetTable.sizeAbove (SetTable.grown (done.length + 1)) = M + 1 → M ≤ 511 → Full M → M % 2 = 1 → Mask4 M → (done.length + 1) * 5 < M * 3 →
        wpAny (model P w) A (setRelay a (SetTable.grown (done.length + 1))) (fun _ s' => wpAny (model P w) A (pure true) Q E s') E { s with heap := h1 } := fun M q1 q2 q3 q4 q5 q6 => by
      refine relay2 (s := { s with heap := h1 }) ho1 ⟨hex.1, hex.2.1, hex.2.2⟩ rfl n1 T1 (by rw [m1]; omega) (M := M) (by rw [q1]; rfl) (by omega) q3 q4 q5 (by omega) q6 few pm fun h2 sb2 S2 => ?_
      exact wpAny_pure (hQ h2 (sb.trans sb2) S2)
    rcases hm with e | e | e | e
    · have d4 : done.length = 4 := by omega
      exact go 31 (by rw [d4]; exact sz20) (by omega) full31 rfl (.inr (.inl rfl)) (by omega)
    · have d4 : done.length = 18 := by omega
      exact go 127 (by rw [d4]; exact sz76) (by omega) full127 rfl (.inr (.inr (.inl rfl))) (by omega)
    · have d4 : done.length = 76 := by omega
      exact go 511 (by rw [d4]; exact sz308) (by omega) full511 rfl (.inr (.inr (.inr rfl))) (by omega)
    · exfalso
      omega
  · first
      | refine wp_if_neg (by simp [hf]) ?_
      | (refine wpAny_bind ?_; refine wp_if_neg (by simp [hf]) ?_; refine wpAny_pure ?_)
    refine wpAny_pure (hQ h1 sb ⟨_, es1, ep + 1, t1, ho1, ⟨hex.1, hex.2.1, hex.2.2⟩, rfl, pm, T1, by rw [m1]; exact hm, ?_⟩)
    have q := hf
    unfold SetTable.tooFull at q
    rw [decide_eq_true_eq, f1] at q
    rw [List.length_cons]
    omega
theorem sc_new {h : Heap} (led : Bool) (ho : h.get? a = some { cls := .type "set", dict := none, data := .set #[] 0 (.fresh 0 0 led) }) : Sc h a [] :=
  ⟨_, #[], 0, _, ho, ⟨rfl, rfl, rfl⟩, rfl, .nil, ⟨.nil, rfl, rfl, fun x hx => (by cases hx), full7, (by show 7 % 2 = 1; decide), rfl⟩, .inl rfl, by show 0 * 5 < 7 * 3; decide⟩
theorem sc_keep {h h' : Heap} {done : List Int} (S : Sc h a done) (k : ∀ o, h.get? a = some o → h'.get? a = some o) : Sc h' a done := by
  obtain ⟨o, es, ep, t, ho, r⟩ := S
  exact ⟨o, es, ep, t, k o ho, r⟩

/-- the loop of set(..) over tuples of different hashes -/
theorem fill2 {I : Addr} {fp wr : List Addr} {G : Array GenState → Array GenState → Prop} {n : Nat} {Pv : Nat → Value → Prop} {St : Nat → Shared → Prop} {R : Result → Shared → Prop}
    (W : WalksS P w A.in1 I fp wr G n Pv St) (S : Addr) (hSf : S ∉ fp) (ks : List (Addr × List Int)) (hn : n = ks.length) (few : ks.length ≤ 200) (hval : ∀ i v, Pv i v → ∃ p, ks[i]? = some p ∧ v = .ref p.1)
    (nd : (ks.map fun p => thash P w p.2).Nodup) (h0 : Heap) (hk : ∀ p ∈ ks, IsT P w h0 p.2 p.1) (hS0 : h0.get? S = none) (hw0 : ∀ b ∈ wr, h0.get? b = none) (hu : A.in1.units < cLine) :
    ∀ (c i : Nat) (s : Shared), n - i = c → i ≤ n → St i s → (∀ b o, h0.get? b = some o → s.heap.get? b = some o) → Sc s.heap S ((ks.take i).map fun p => thash P w p.2).reverse →
      (∀ s', Moved (S :: wr) G s s' → Sc s'.heap S (ks.map fun p => thash P w p.2).reverse → (∀ b o, h0.get? b = some o → s'.heap.get? b = some o) → R (.ok (.ret .none)) s') →
      codeAny (model P w) A (.builtin "set.update.loop" ⟨[.ref S, .ref I], []⟩) R s := by
  have nSw : S ∉ wr := fun h => hSf (W.sub _ h)
  have up : ∀ b ∈ wr, b ∈ S :: wr := fun b hb => List.mem_cons_of_mem _ hb
  have stay : ∀ {s s' : Shared}, Moved wr G s s' → (∀ b o, h0.get? b = some o → s.heap.get? b = some o) → ∀ b o, h0.get? b = some o → s'.heap.get? b = some o := fun hm k b o e =>
    hm.heap b o (fun hb => by rw [hw0 b hb] at e; cases e) (k b o e)
  intro c
  induction c with
  | zero =>
    intro i s hc hi st kp SC hR
    obtain rfl : i = n := by omega
    refine codeAny_builtin F.entry_set_update_loop ?_
    rw [Around.under_plainId F.plain_set_update_loop _]
    show wpAny _ A.in1 (pyNext (.ref I) >>= _) _ _ s
    refine wpAny_bind (W.done s _ _ st fun s' hm => ?_)
    show wpAny _ A.in1 (ret Value.none) _ _ s'
    rw [hn, List.take_length] at SC
    exact wpAny_pure (hR s' (hm.mono up) (sc_keep SC fun o e => hm.heap S o nSw e) (stay hm kp))
  | succ c ih =>
    intro i s hc hi st kp SC hR
    have lt : i < n := by omega
    refine codeAny_builtin F.entry_set_update_loop ?_
    rw [Around.under_plainId F.plain_set_update_loop _]
    show wpAny _ A.in1 (pyNext (.ref I) >>= _) _ _ s
    refine wpAny_bind (W.item i s _ _ lt st fun v s' hv st' hm => ?_)
    obtain ⟨p, hp, rfl⟩ := hval i v hv
    have kp' := stay hm kp
    have SC' : Sc s'.heap S ((ks.take i).map fun p => thash P w p.2).reverse := sc_keep SC fun o e => hm.heap S o nSw e
    have tp : IsT P w s'.heap p.2 p.1 := isT_keep (hk p (List.mem_of_getElem? hp)) kp'
    have tk : ((ks.take (i + 1)).map fun p => thash P w p.2).reverse = thash P w p.2 :: ((ks.take i).map fun p => thash P w p.2).reverse := by
      rw [List.take_succ, hp, List.map_append, List.reverse_append]
      rfl
    have fresh : thash P w p.2 ∉ ((ks.take i).map fun p => thash P w p.2).reverse := fun hm2 => by
      rw [List.mem_reverse] at hm2
      have e1 : ks.take (i + 1) = ks.take i ++ [p] := by rw [List.take_succ, hp]; rfl
      have sub : ((ks.take (i + 1)).map fun p => thash P w p.2).Nodup := nd.sublist ((List.take_sublist _ _).map _)
      rw [e1, List.map_append] at sub
      exact (List.nodup_append.mp sub).2.2 _ hm2 _ (List.mem_singleton.mpr rfl) rfl
    show wpAny _ A.in1 (holding [Value.ref p.1] (setAdd S (.ref p.1)) >>= _) _ _ s'
    refine wpAny_bind (wpAny_holding ?_)
    unfold setAdd
    refine wpAny_holding ?_
    refine wpAny_bind (wpAny_pyHash_tuple hu tp ?_)
    refine add2 (s := { s' with toks := s'.toks + (p.2.length + 1) }) SC' tp fresh (by rw [List.length_reverse, List.length_map, List.length_take]; omega) fun h' sb S2 => ?_
    have kp2 : ∀ b o, h0.get? b = some o → h'.get? b = some o := fun b o e => (sb.2 b (fun z => by rw [z, hS0] at e; cases e)).trans (kp' b o e)
    refine wpAny_pure ⟨plainId_quiet F.plain_set_update_loop _, ih (i + 1) _ (by omega) lt (W.frame _ s' _ _ st' (Nat.le_add_right _ _) fun b hb o e => ?_) kp2 (by rw [tk]; exact S2) fun s2 hm2 S3 kp3 => ?_⟩
    · rw [sb.2 b (fun z => hSf (by rw [← z]; exact hb))]
      exact e
    · refine hR s2 (Moved.trans W.gtrans ((hm.mono up).then_heap (Nat.le_add_right _ _) fun b o hb e => ?_) hm2) S3 kp3
      rw [sb.2 b (fun z => hb (by rw [z]; exact List.mem_cons_self))]
      exact e
end
end KS

namespace KS
open PySem PySem.Spec PyProof.Rows L2
section
variable {P : Program} {w : World} {A : Around} {E : Value → Shared → Prop} {s : Shared}
/-- a set as it is made -/
abbrev nS (w : World) : Obj := { cls := .type "set", dict := none, data := .set #[] 0 (.fresh 0 0 (!w.params.followText "set-order")) }
/-- set(xs), xs a list of tuples of ints of different hashes -/
theorem call_set2 {l : Addr} {items : Array Value} (ks : List (Addr × List Int)) {Q : Value → Shared → Prop} (hh : A.handled = none) (hl : s.heap.IsList l items) (hit : items.toList = ks.map fun p => Value.ref p.1)
    (hk : ∀ p ∈ ks, IsT P w s.heap p.2 p.1) (few : ks.length ≤ 200) (nd : (ks.map fun p => thash P w p.2).Nodup) (hu : A.units + 3 < cLine)
    (h : ∀ (h' : Heap) (tk : Nat), Sc h' s.heap.objs.size (ks.map fun p => thash P w p.2).reverse → (∀ b o, s.heap.get? b = some o → h'.get? b = some o) → Q (.ref s.heap.objs.size) { s with heap := h', toks := tk }) :
    wpAny (model P w) A (call (.type "set") [.ref l]) Q E s := by
  have isz : items.size = ks.length := by
    have q := congrArg List.length hit
    rw [Array.length_toList, List.length_map] at q
    exact q
  obtain ⟨c0, tl0, mro0⟩ := F.called_set.mro
  have made0 := F.called_set.made
  have sub0 := F.called_set.sub
  refine wpAny_call (codeAny_of_tree ?_)
  show wpAny _ _ (callAny (.type "set") _) _ _ _
  refine wpAny_pure ⟨Code.quiet_builtin _ (by decide +kernel), codeAny_builtin F.entry_type_call ?_⟩
  rw [Around.under_plain (weight_type_call_type "set" [.ref l] []) rfl]
  have n1 := F.called_set.notType
  have n2 := F.called_set.canCreate
  have n3 := F.typeCall_set_1 (.ref l)
  repeat (any_goals (first | assumption | wp_step))
  refine codeAny_mono (code_set_led1 (.ref l) (E := E) (Q₁ := fun ob s1 => ob = .ref s.heap.objs.size ∧ s1 = { s with heap := s.heap.push (nS w) }) ⟨rfl, rfl⟩) fun r s1 hr => ?_
  cases r with
  | error e => exact hr
  | ok fl =>
    cases fl with
    | ret ob =>
      obtain ⟨rfl, rfl⟩ := hr
      have atS : (s.heap.push (nS w)).get? s.heap.objs.size = some (nS w) := Heap.get?_push_size _ rfl
      have tyS : Shared.TypeIs { s with heap := s.heap.push (nS w) } (.ref s.heap.objs.size) "set" := ⟨_, atS, rfl⟩
      have i1 := F.called_set.init.lookup
      have i2 := F.called_set.init.bind (.ref s.heap.objs.size)
      repeat (any_goals (first | assumption | wp_step))
      refine codeAny_mono (codeAny_call_builtin (R := wants (fun r s2 => r = .none ∧ ∃ h' tk, s2 = { s with heap := h', toks := tk } ∧ Sc h' s.heap.objs.size (ks.map fun p => thash P w p.2).reverse ∧
          (∀ b o, s.heap.get? b = some o → h'.get? b = some o)) E) F.called_set.init.plain F.entry_set_init (check_set_init_1 tyS ?_)) fun r2 s2 hr2 => ?_
      · obtain ⟨⟨oc, od, odt, osl⟩, ol, ocl, nl, odd⟩ := hl
        simp only at ocl odd
        subst ocl odd
        have ol1 : (s.heap.push (nS w)).get? l = some { cls := .type "list", dict := od, data := .seq items nl, slots := osl } := Heap.get?_push_of_some _ ol
        have b1 := F.sub_list_set
        have b2 := F.sub_list_frozenset
        have b3 : (Value.type "list" == Value.type "dict") = false := by decide
        have li1 : (s.heap.push (nS w)).IsList l items := ⟨_, ol1, rfl, nl, rfl⟩
        unfold Builtin.«set.__init__» noKeywords Builtin.Frozenset.updateFrom
        generalize ePI : pyIter = PI
        wp_walk
        subst ePI
        refine wpAny_pyIter_list li1 ?_
        refine wpAny_bind (wpAny_runValue ?_)
        have ltl : l < s.heap.objs.size := Heap.lt_size ol
        have h3 : A.in1.in1.in1.handled = none := by simp [hh]
        have z1 : (s.heap.push (nS w)).objs.size = s.heap.objs.size + 1 := Heap.size_push ..
        have ne1 : l ≠ (s.heap.push (nS w)).objs.size := by
          rw [z1]
          exact Nat.ne_of_lt (Nat.lt_succ_of_lt ltl)
        have nf : s.heap.objs.size ∉ [(s.heap.push (nS w)).objs.size, l] := by
          rw [z1]
          intro hm
          rcases List.mem_cons.mp hm with e | hm
          · exact absurd e (Nat.ne_of_lt (Nat.lt_succ_self _))
          · exact absurd (List.mem_singleton.mp hm) (Nat.ne_of_gt ltl)
        have vals : ∀ (i : Nat) (v : Value), items[i]? = some v → ∃ p, ks[i]? = some p ∧ v = .ref p.1 := fun i v hv => by
          have q : items.toList[i]? = some v := by rw [Array.getElem?_toList]; exact hv
          rw [hit, List.getElem?_map] at q
          obtain ⟨p, hp, e⟩ := Option.map_eq_some_iff.mp q
          exact ⟨p, hp, e.symm⟩
        have no : ∀ b, s.heap.objs.size ≤ b → s.heap.get? b = none := fun b hb => by
          cases q : s.heap.get? b with
          | none => rfl
          | some o => exact absurd (Nat.lt_of_lt_of_le (Heap.lt_size q) hb) (Nat.lt_irrefl _)
        refine fill2 ((Walks.list h3 _ l ne1 items).toS) s.heap.objs.size nf ks isz few vals nd s.heap hk (no _ (Nat.le_refl _)) (fun b hb => no b (by
            rw [List.mem_singleton.mp hb, z1]
            exact Nat.le_succ _)) hu (items.size - 0) 0 _ (by omega) (Nat.zero_le _)
          ⟨⟨_, Heap.get?_push_size _ rfl, rfl, rfl⟩, (li1.push _)⟩ (fun b o e => Heap.get?_push_of_some _ (Heap.get?_push_of_some _ e)) (sc_new _ (Heap.get?_push_of_some _ atS)) ?fin
        case fin =>
          intro s3 hm S3 kp
          obtain ⟨h4, g4, d4, tk4, os4⟩ := s3
          obtain rfl : g4 = s.gens := hm.gens
          obtain rfl : d4 = s.drawn := hm.drawn
          obtain rfl : os4 = s.os := hm.os
          show wpAny _ _ _ _ _ _
          refine wpAny_pure ?_
          show wpAny _ _ (ret Value.none) _ _ _
          exact wpAny_pure ⟨rfl, h4, tk4, rfl, S3, kp⟩
      · cases r2 with
        | error e => exact hr2
        | ok fl2 =>
          cases fl2 with
          | ret r =>
            obtain ⟨rfl, h4, tk4, rfl, S3, kp⟩ := hr2
            repeat (any_goals (first | assumption | wp_step))
            exact h _ _ S3 kp
          | _ => exact hr2.elim
    | _ => exact hr.elim
end
/-! ### len(set(xs)) -/
def hashT (ns : List Int) : Int := reduceHash (Builtin.Tuple.tupleHashOf (ns.map hashInt))
def tLenSetT (K : PySem.W.Frag) (ta : TE) : TE := fun σ H Q => ta σ H fun x H1 => ∃ (l : Addr) (xs : List V) (nss : List (List Int)), x = V.ref l ∧ SqL K H1 l xs ∧ KR.Tups K H1 xs nss ∧ nss.length ≤ 200 ∧ (nss.map hashT).Nodup ∧ Q (.int (nss.length : Nat)) H1
theorem items_of_ints {P : Program} {w : World} : ∀ {us : List Value} {ns : List Int}, IntsAre us ns → ItemsAre (intKind P w) ns us
  | _, _, .nil => .nil
  | _, _, .cons n t r => .cons (intKind_is _ _ _ _) (items_of_ints r)
theorem pair_rows {X : Cx} {pins : List (Addr × Obj)} {σ : L2.St} {H : Hp} {s : Shared} (I : Inv X pins σ H s) : ∀ {xs : List V} {us : List Value} {nss : List (List Int)}, Vals xs us → KR.Tups X.K H xs nss →
    ∃ ks : List (Addr × List Int), us = ks.map (fun p => Value.ref p.1) ∧ nss = ks.map (·.2) ∧ ∀ p ∈ ks, IsT X.prog X.w s.heap p.2 p.1
  | _, _, _, .nil, .nil => ⟨[], rfl, rfl, fun p hp => nomatch hp⟩
  | _, _, _, .cons r rs, .cons (b := ns) h hs => by
    obtain ⟨t, rfl, ht⟩ := h
    cases r
    obtain ⟨ks, e1, e2, e3⟩ := pair_rows I rs hs
    obtain ⟨its, rv, ⟨o, ho, hc, n, hd⟩, _⟩ := I.tuple ht
    refine ⟨(t, ns) :: ks, by rw [e1]; rfl, by rw [e2]; rfl, fun p hp => ?_⟩
    rcases List.mem_cons.mp hp with e | hp
    · subst e
      exact ⟨o, its.toArray, n, ho, hc, hd, by simpa using items_of_ints rv.ints⟩
    · exact e3 p hp
theorem pe_lenSetT {X : Cx} {a : Expr} {ta : TE} {p p2 q pos : Pos} (hc : X.calm = true) (hu : X.A.units + 4 < cLine) (hg : Gl X "len") (hm : X.mg "len" = none) (hg2 : Gl X "set") (hm2 : X.mg "set" = none) (ha : PE X a ta)
    (na : starEach [a] X.env = (false, eval a X.env) :: starEach [] X.env := by rfl) : PE X (.Call (.Name "len" p) [.Call (.Name "set" p2) [a] [] q] [] pos) (tLenSetT X.K ta) := by
  constructor
  intro pins s σ H Q I h
  refine Call_ (ld_blt I hg hm PySem.boot_len ?_)
  refine PyProof.Rows.callWith_builtin1 (PyProof.Rows.args_cons ?_ rfl) rfl rfl
  refine Call_ (ld_blt I hg2 hm2 PyProof.Rows.boot_set ?_)
  refine PyProof.Rows.callWith_type1 (PyProof.Rows.args_cons (thn (ha.run pins s σ H _ I h) fun v s1 ⟨x, H1, I1, r1, q1⟩ => PyProof.Rows.args_nil ?_) na) na rfl
  obtain ⟨l, xs, nss, rfl, hq, ht, few, nd, q1⟩ := q1
  cases r1
  obtain ⟨its, rv, pl, hz⟩ := I1.list hq
  obtain ⟨ks, e1, e2, e3⟩ := pair_rows I1 rv ht
  have kl : ks.length = nss.length := by rw [e2, List.length_map]
  have hs : ks.map (fun p => thash X.prog X.w p.2) = nss.map hashT := by
    rw [e2, List.map_map]
    rfl
  refine call_set2 ks (I1.ok.hd hc) pl.isList (by simpa using e1) e3 (by rw [kl]; exact few) (by rw [hs]; exact nd) (by omega) fun h' tk S kp => ?_
  refine PyProof.Rows.args_nil ?_
  obtain ⟨o, es, ep, t, ho, hex, hd, hp, T, _, room⟩ := S
  have en : es.size = nss.length := by
    have q := hp.length_eq
    rw [List.length_map, Array.length_toList, List.length_reverse, List.length_map, kl] at q
    exact q
  have len : ((ks.map fun p => thash X.prog X.w p.2).reverse).length = es.size := by
    rw [List.length_reverse, List.length_map, kl, en]
  rw [len] at T room
  have I2 : Inv X pins σ H1 { s1 with heap := h', toks := tk } := I1.kept kp
  refine call_len_set ho hex hd (T.fits (by omega)) (by rw [en]; omega) ⟨.int (nss.length : Nat), H1, I2.tok _, ⟨_, by rw [en]⟩, q1⟩
end KS

namespace Kq
open PySem PySem.Spec PyProof.Rows L2 KR
/-! ### the text -/
def top (i : Nat) : Stmt := PySem.Challenge.pw_sumsalone_k31_whole_nested_rows_listed.main.body.getD i (.Pass ⟨0, 0, 0, 0⟩)
abbrev sInteger : Stmt := top 1
abbrev sFrom : Stmt := top 2
abbrev sAmount : Stmt := top 11
abbrev sIsRow : Stmt := top 12
abbrev sReq : Stmt := top 13
abbrev sFalling : Stmt := top 14
abbrev sNestedIn : Stmt := top 16
abbrev sNestedRow : Stmt := top 17
abbrev sNin : Stmt := top 18
abbrev sRows : Stmt := top 19
abbrev sVat : Stmt := top 21
abbrev sDip : Stmt := top 22
abbrev sPick : Stmt := top 23
abbrev sMixed : Stmt := top 24
abbrev sWords : Stmt := top 25
abbrev sRowOf : Stmt := top 26
abbrev sRight : Stmt := top 27
abbrev sLaw : Stmt := top 28
/-! ### a def as its callers want it -/
structure Df (P : Program) (w : World) (K : PySem.W.Frag) (mg : Str → Option Value) (base : Heap) (x : Str) (ps : List Str) (k : Nat) (sp : Sp) (f : Addr) (fd : FuncData) : Prop where
  ok : FnOk P w K mg base CX0 k f fd ps sp
  bd : Binds K fd ps []
  kp : PySem.W.keepIn K (.ref f) = true
  at_ : mg x = some (.ref f)
theorem pe_df {X : Cx} {x : Str} {ps : List Str} {k j : Nat} {sp : Sp} {f : Addr} {fd : FuncData} {e : Expr} {es : List Expr} {t : TA} {p pos : Pos} (D : Df X.prog X.w X.K X.mg X.base x ps k sp f fd) (hr : Room j X.A) (ha : PA X (e :: es) t) (hkj : k ≤ j := by decide) (hg : Gl X x := by rfl)
    (hdb : (x == ("__debug__" : Str)) = false := by decide) (he : starEach (e :: es) X.env = (false, eval e X.env) :: starEach es X.env := by rfl) (hpl : (backTo pos (starEach es X.env)).any (·.1) = false := by rfl) :
    PE X (.Call (.Name x p) (e :: es) [] pos) (tCall sp [] E0 t) := pe_call D.ok (hr.mono hkj) hg D.at_ D.kp D.bd .nil pass0 ha hdb he hpl
/-! ### heaps -/
theorem same_upd {H : Hp} {p : Addr} {o : HO} (h : H p = none) : Same H (upd H p o) := fun b x e => by
  rw [upd_ne (ne_of_none e h)]
  exact e
abbrev Is (ns : List Int) : List V := ns.map V.int
theorem Same.tupAt {K : PySem.W.Frag} {H H' : Hp} {a : Addr} {xs : List V} (e : Same H H') (h : SqT K H a xs) : SqT K H' a xs := by
  rcases h with (h | ⟨o, h⟩) | h
  · exact .inl (.inl (e _ _ h))
  · exact .inl (.inr ⟨o, e _ _ h⟩)
  · exact .inr h
theorem Same.tups {K : PySem.W.Frag} {H H' : Hp} (e : Same H H') {xs : List V} {nss : List (List Int)} (h : Tups K H xs nss) : Tups K H' xs nss :=
  Paired.mapP h fun v ns ⟨t, ev, q⟩ => ⟨t, ev, Same.tupAt e q⟩
/-- all but what stands at v -/
def SameX (v : Addr) (H H' : Hp) : Prop := ∀ b o, b ≠ v → H b = some o → H' b = some o
theorem SameX.refl (v : Addr) (H : Hp) : SameX v H H := fun _ _ _ h => h
theorem SameX.trans {v : Addr} {H H1 H2 : Hp} (a : SameX v H H1) (b : SameX v H1 H2) : SameX v H H2 := fun c o n h => b c o n (a c o n h)
theorem Same.x {H H' : Hp} (v : Addr) (a : Same H H') : SameX v H H' := fun c o _ h => a c o h
theorem SameX.upd {v : Addr} {H : Hp} {o : HO} : SameX v H (upd H v o) := fun b u n h => by rw [upd_ne n]; exact h
theorem SameX.tupAt {K : PySem.W.Frag} {v : Addr} {H H' : Hp} {l : List V} (hv : H v = some (.lst l)) {a : Addr} {xs : List V} (e : SameX v H H') (h : SqT K H a xs) : SqT K H' a xs := by
  rcases h with (h | ⟨o, h⟩) | h
  · exact .inl (.inl (e _ _ (fun z => by rw [z, hv] at h; cases h) h))
  · exact .inl (.inr ⟨o, e _ _ (fun z => by rw [z, hv] at h; cases h) h⟩)
  · exact .inr h
theorem SameX.tups {K : PySem.W.Frag} {v : Addr} {H H' : Hp} {l : List V} (hv : H v = some (.lst l)) (e : SameX v H H') {xs : List V} {nss : List (List Int)} (h : Tups K H xs nss) : Tups K H' xs nss :=
  Paired.mapP h fun x ns ⟨t, ev, q⟩ => ⟨t, ev, SameX.tupAt hv e q⟩
theorem tups_len {K : PySem.W.Frag} {H : Hp} {xs : List V} {nss : List (List Int)} (h : Tups K H xs nss) : xs.length = nss.length := Paired.length h
theorem tups_get {K : PySem.W.Frag} {H : Hp} : ∀ {xs : List V} {nss : List (List Int)} {i : Nat} {ns : List Int}, Tups K H xs nss → nss[i]? = some ns → ∃ t, xs[i]? = some (V.ref t) ∧ SqT K H t (Is ns)
  | _, _, _, _, .nil, e => by simp at e
  | _, _, 0, _, .cons ⟨t, ev, q⟩ _, e => by
    simp only [List.getElem?_cons_zero, Option.some.injEq] at e
    subst e
    exact ⟨t, by rw [ev]; rfl, q⟩
  | _, _, i + 1, _, .cons _ r, e => by
    have e' := e
    rw [List.getElem?_cons_succ] at e'
    obtain ⟨t, h1, h2⟩ := tups_get r e'
    exact ⟨t, by rw [List.getElem?_cons_succ]; exact h1, h2⟩
theorem tups_app {K : PySem.W.Frag} {H : Hp} : ∀ {xs ys : List V} {nss mss : List (List Int)}, Tups K H xs nss → Tups K H ys mss → Tups K H (xs ++ ys) (nss ++ mss)
  | _, _, _, _, .nil, s => s
  | _, _, _, _, .cons r t, s => .cons r (tups_app t s)
theorem tups_one {K : PySem.W.Frag} {H : Hp} {t : Addr} {ns : List Int} (h : SqT K H t (Is ns)) : Tups K H [V.ref t] [ns] := .cons ⟨t, rfl, h⟩ .nil
theorem take_more {α : Type} {l : List α} {i : Nat} {x : α} (h : l[i]? = some x) : l.take (i + 1) = l.take i ++ [x] := by
  rw [List.take_succ, h]
  rfl
theorem is_len (ns : List Int) : (Is ns).length = ns.length := List.length_map _
theorem is_get {ns : List Int} {i : Nat} {x : V} (h : (Is ns)[i]? = some x) : ∃ n, ns[i]? = some n ∧ x = V.int n := by
  rw [List.getElem?_map] at h
  obtain ⟨n, hn, e⟩ := Option.map_eq_some_iff.mp h
  exact ⟨n, hn, e.symm⟩
/-! ### the built-ins' names are theirs -/
structure Bn (mg : Str → Option Value) : Prop where
  len : mg "len" = none
  isi : mg "isinstance" = none
  int : mg "int" = none
  bool : mg "bool" = none
  tup : mg "tuple" = none
  all : mg "all" = none
  sorted : mg "sorted" = none
  enum : mg "enumerate" = none
  abs : mg "abs" = none
  max : mg "max" = none
  min : mg "min" = none
  range : mg "range" = none
  sum : mg "sum" = none
  list : mg "list" = none
  set : mg "set" = none
section
variable {P : Program} {w : World} {K : PySem.W.Frag} {mg : Str → Option Value} {base : Heap}
/-! ### is_integer -/
def spInteger : Sp := fun vs H Q _ => ∃ i : Int, vs = [.int i] ∧ Q (.bl true) H
theorem scInteger : FnScope ["value"] ["value"] (defScope sInteger) := ⟨rfl, rfl, rfl, by decide +kernel, rfl, by decide +kernel, by decide +kernel⟩
theorem ok_integer {f : Addr} {fd : FuncData} (B : Bn mg) (F : Fun K "is_integer" "is_integer" sInteger f fd) : FnOk P w K mg base CX0 1 f fd ["value"] spInteger := by
  refine F.ok scInteger (fun vs H Q E h => ?_) (fun cdv A outer s H vs Q E hr h => ?_)
  · obtain ⟨i, rfl, _⟩ := h
    rfl
  obtain ⟨i, rfl, q⟩ := h
  refine ⟨_, pss_one (ps_ret (pe_and (pe_callB call_isi (by rfl) B.isi PyProof.Rows.boot_isinstance (pa_cons (pv 0) (pa_cons (pe_bltn (v := .ty "int") (by rfl) B.int (by decide +kernel) rfl) pa_nil)))
    (pe_one (pe_not (pe_callB call_isi (by rfl) B.isi PyProof.Rows.boot_isinstance (pa_cons (pv 0) (pa_cons (pe_bltn (v := .ty "bool") (by rfl) B.bool (by decide +kernel) rfl) pa_nil))))))), ?_⟩
  refine ⟨_, rfl, _, _, _, _, true, rfl, .ty _, .base (.int _), kit_ty (by decide +kernel), true, rfl, iteT ?_⟩
  exact ⟨_, rfl, _, _, _, _, false, rfl, .ty _, .base (.int _), kit_ty (by decide +kernel), false, rfl, q⟩
/-! ### is_from -/
def spFrom : Sp := fun vs H Q _ => ∃ v a b : Int, vs = [.int v, .int a, .int b] ∧ Q (.bl (decide (a ≤ v ∧ v ≤ b))) H
theorem scFrom : FnScope ["value", "first", "last"] ["value", "first", "last"] (defScope sFrom) := ⟨rfl, rfl, rfl, by decide +kernel, rfl, by decide +kernel, by decide +kernel⟩
theorem ok_from {f g : Addr} {fd gd : FuncData} (F : Fun K "is_from" "is_from" sFrom f fd) (G : Df P w K mg base "is_integer" ["value"] 1 spInteger g gd) : FnOk P w K mg base CX0 2 f fd ["value", "first", "last"] spFrom := by
  refine F.ok scFrom (fun vs H Q E h => ?_) (fun cdv A outer s H vs Q E hr h => ?_)
  · obtain ⟨v, a, b, rfl, _⟩ := h
    rfl
  obtain ⟨v, a, b, rfl, q⟩ := h
  refine ⟨_, pss_one (ps_ret (pe_and (pe_df G hr (pa_cons (pv 0) pa_nil)) (pe_one (pe_chain op_le op_le (pv 1) (pv 0) (pv 2))))), ?_⟩
  refine ⟨_, rfl, v, rfl, true, rfl, iteT ?_⟩
  refine ⟨_, rfl, _, rfl, _, _, rfl, rfl, _, rfl, ?_⟩
  refine ite2 (fun c => ?_) (fun c => ?_)
  · refine ⟨_, rfl, _, _, rfl, rfl, ?_⟩
    have c' : a ≤ v := of_decide_eq_true c
    have e : decide (v ≤ b) = decide (a ≤ v ∧ v ≤ b) := by simp [c']
    rw [← e] at q
    exact q
  · have c' : ¬ a ≤ v := of_decide_eq_false (Bool.eq_false_iff.mpr c)
    have e : decide (a ≤ v ∧ v ≤ b) = false := by simp [c']
    rw [e] at q
    exact q
/-! ### is_amount -/
abbrev big : Int := 999999999999999999999999999999
def spAmount : Sp := fun vs H Q _ => ∃ v : Int, vs = [.int v] ∧ Q (.bl (decide (0 ≤ v ∧ v ≤ big))) H
theorem scAmount : FnScope ["value"] ["value"] (defScope sAmount) := ⟨rfl, rfl, rfl, by decide +kernel, rfl, by decide +kernel, by decide +kernel⟩
theorem ok_amount {f g : Addr} {fd gd : FuncData} {tb : Tok} (F : Fun K "is_amount" "is_amount" sAmount f fd) (G : Df P w K mg base "is_from" ["value", "first", "last"] 2 spFrom g gd) (mb : mg "MAX_NUMBER" = some (.int big tb)) : FnOk P w K mg base CX0 3 f fd ["value"] spAmount := by
  refine F.ok scAmount (fun vs H Q E h => ?_) (fun cdv A outer s H vs Q E hr h => ?_)
  · obtain ⟨v, rfl, _⟩ := h
    rfl
  obtain ⟨v, rfl, q⟩ := h
  refine ⟨_, pss_one (ps_ret (pe_df G hr (pa_cons (pv 0) (pa_cons pe_int (pa_cons (pe_glob (v := .int big) rfl mb ⟨_, rfl⟩) pa_nil))))), ?_⟩
  exact ⟨_, rfl, v, 0, big, rfl, q⟩
end
end Kq

namespace Kq
open PySem PySem.Spec PyProof.Rows L2 KR
/-! ### more of heaps -/
theorem tyx_tup {K : PySem.W.Frag} {H : Hp} {a : Addr} {xs : List V} (h : SqT K H a xs) : TyX K H (.ref a) (.type "tuple") := by
  rcases h with (h | ⟨o, h⟩) | ⟨o, its, n, h, hc, _⟩
  · exact .base (.tup h)
  · exact .fTuple h
  · exact .kTuple h hc
theorem same_at {H H4 : Hp} {D : Addr} {o : HO} (s : Same H H4) (n : H D = none) : Same H (upd H4 D o) := fun b u e => by
  rw [upd_ne (ne_of_none e n)]
  exact s b u e
theorem decV {i j : Int} : decide (V.int i = V.int j) = decide (i = j) := by
  by_cases c : i = j
  · subst c; simp
  · have c' : ¬ V.int i = V.int j := fun e => c (V.int.inj e)
    rw [decide_eq_false c, decide_eq_false c']
theorem rep_more {α : Type} (x : α) (i : Nat) : List.replicate (i + 1) x = List.replicate i x ++ [x] := List.replicate_succ'
section
variable {P : Program} {w : World} {K : PySem.W.Frag} {mg : Str → Option Value} {base : Heap}
/-! ### is_row -/
/-- what a row of ours is -/
structure Row (ns : List Int) : Prop where
  ne : 1 ≤ ns.length
  few : ns.length ≤ 64
  amt : ∀ x ∈ ns, 0 ≤ x ∧ x ≤ big
def spIsRow (K : PySem.W.Frag) : Sp := fun vs H Q _ => ∃ (a : Addr) (ns : List Int), vs = [.ref a] ∧ SqT K H a (Is ns) ∧ Row ns ∧ ∀ H', Same H H' → Q (.bl true) H'
theorem scIsRow : FnScope ["value", "entry"] ["value"] (defScope sIsRow) := ⟨rfl, rfl, rfl, by decide +kernel, rfl, by decide +kernel, by decide +kernel⟩
theorem ok_isRow {f g g2 : Addr} {fd gd gd2 : FuncData} {tl : Tok} (B : Bn mg) (F : Fun K "is_row" "is_row" sIsRow f fd) (G : Df P w K mg base "is_from" ["value", "first", "last"] 2 spFrom g gd) (G2 : Df P w K mg base "is_amount" ["value"] 3 spAmount g2 gd2)
    (ml : mg "MAX_LENGTH" = some (.int 64 tl)) : FnOk P w K mg base CX0 4 f fd ["value"] (spIsRow K) := by
  refine F.ok scIsRow (fun vs H Q E h => ?_) (fun cdv A outer s H vs Q E hr h => ?_)
  · obtain ⟨a, ns, rfl, _⟩ := h
    rfl
  obtain ⟨a, ns, rfl, hS, hR, q⟩ := h
  refine ⟨_, pss_cons (ps_if (PW.pt (pw_or (pt_not (pt_val (pe_callB call_isi (by rfl) B.isi PyProof.Rows.boot_isinstance (pa_cons (pv 0) (pa_cons (pe_bltn (v := .ty "tuple") (by rfl) B.tup (by decide +kernel) rfl) pa_nil)))))
        (pw_or1 (pt_not (pt_val (pe_df G hr (pa_cons (pe_callB call_len_seq (by rfl) B.len PySem.boot_len (pa_cons (pv 0) pa_nil)) (pa_cons pe_int (pa_cons (pe_glob (v := .int 64) rfl ml ⟨_, rfl⟩) pa_nil)))))))))
      (pss_one (ps_ret pe_bl)) pss_nil)
    (pss_one (ps_ret (pe_callB (cr_all rfl) (by rfl) B.all (by decide +kernel) (pa_cons (pe_lc (own := [("entry", 1)]) (g := gName 1) (tt := tYes) rfl scIsRow.nd (pi_tup (pv 0)) (blkOk_by (N := ["value", "entry"]) (sc := defScope sIsRow) (by decide +kernel))
      (fun _ _ _ _ _ => pg_name (i := 1) scIsRow.nd rfl (Or.inl rfl)) (fun _ _ _ _ _ => pts_nil) (fun _ _ _ _ _ => pe_df G2 hr (pa_cons (pv 1) pa_nil))) pa_nil)))), ?_⟩
  have hl : ((Is ns).length : Int) = (ns.length : Int) := by rw [is_len]
  -- the tests
  refine ⟨_, rfl, _, _, _, _, true, rfl, .ty _, tyx_tup hS, kit_ty (by decide +kernel), true, rfl, iteF ?_⟩
  refine ⟨_, rfl, a, _, rfl, .inr hS, _, 1, 64, rfl, true, ?_, iteF ?_⟩
  · have c : (1 : Int) ≤ ((Is ns).length : Int) ∧ ((Is ns).length : Int) ≤ 64 := by
      have h1 := hR.ne
      have h2 := hR.few
      rw [hl]
      omega
    rw [decide_eq_true c]
  -- all([..])
  refine ⟨_, rfl, a, rfl, ⟨_, hS⟩, fun D hD => lc_tup (xs := Is ns) (fun i H' => Same H H' ∧ H' D = some (.lst ((List.replicate i true).map V.bl))) ⟨same_upd hD, upd_same⟩ (fun i H' _ p => Same.tupAt p.1 hS) (fun i x H' hx p => ?_) fun H' p => ?_⟩
  · obtain ⟨n, hn, rfl⟩ := is_get hx
    obtain ⟨n1, n2⟩ := hR.amt n (List.mem_of_getElem? hn)
    have hi : i < ns.length := (List.getElem?_eq_some_iff.mp hn).1
    refine ⟨rfl, ?_⟩
    refine ⟨_, rfl, n, rfl, _, p.2, ?_, ?_⟩
    · rw [List.length_map, List.length_replicate]
      exact small1000 (by have := hR.few; omega)
    · refine ⟨same_at p.1 hD, ?_⟩
      rw [upd_same, decide_eq_true ⟨n1, n2⟩, rep_more, List.map_append]
      rfl
  · refine ⟨D, _, rfl, .inl (.inl p.2), ?_⟩
    have e : (List.replicate (Is ns).length true).all id = true := by
      rw [List.all_eq_true]
      intro x hx
      exact (List.mem_replicate.mp hx).2
    rw [e]
    exact q H' p.1
/-! ### require_row -/
def spReq (K : PySem.W.Frag) : Sp := fun vs H Q _ => ∃ (a : Addr) (ns : List Int), vs = [.ref a] ∧ SqT K H a (Is ns) ∧ Row ns ∧ ∀ H', Same H H' → Q .non H'
theorem scReq : FnScope ["value"] ["value"] (defScope sReq) := ⟨rfl, rfl, rfl, by decide +kernel, rfl, by decide +kernel, by decide +kernel⟩
theorem ok_req {f g : Addr} {fd gd : FuncData} (F : Fun K "require_row" "require_row" sReq f fd) (G : Df P w K mg base "is_row" ["value"] 4 (spIsRow K) g gd) : FnOk P w K mg base CX0 5 f fd ["value"] (spReq K) := by
  refine F.ok scReq (fun vs H Q E h => ?_) (fun cdv A outer s H vs Q E hr h => ?_)
  · obtain ⟨a, ns, rfl, _⟩ := h
    rfl
  obtain ⟨a, ns, rfl, hS, hR, q⟩ := h
  refine ⟨_, pss_one (ps_if (pt_not (pt_val (pe_df G hr (pa_cons (pv 0) pa_nil)))) (pss_one ps_never) pss_nil), ?_⟩
  exact ⟨_, rfl, a, ns, rfl, hS, hR, fun H' sm => ⟨true, rfl, iteF (q H' sm)⟩⟩
/-! ### falling -/
def spFalling (K : PySem.W.Frag) : Sp := fun vs H Q _ => ∃ (a : Addr) (ns : List Int), vs = [.ref a] ∧ SqT K H a (Is ns) ∧ ∀ H' p, Same H H' → H p = none → H' p = some (.tup (Is (Nst.isD ns))) → Q (.ref p) H'
theorem scFalling : FnScope ["row"] ["row"] (defScope sFalling) := ⟨rfl, rfl, rfl, by decide +kernel, rfl, by decide +kernel, by decide +kernel⟩
theorem ok_falling {f : Addr} {fd : FuncData} (B : Bn mg) (F : Fun K "falling" "falling" sFalling f fd) : FnOk P w K mg base CX0 1 f fd ["row"] (spFalling K) := by
  refine F.ok scFalling (fun vs H Q E h => ?_) (fun cdv A outer s H vs Q E hr h => ?_)
  · obtain ⟨a, ns, rfl, _⟩ := h
    rfl
  obtain ⟨a, ns, rfl, hS, q⟩ := h
  refine ⟨_, pss_one (ps_ret (pe_callTy call_tuple_of (by rfl) B.tup (by decide +kernel) (pa_cons (pe_callBK cr_sortedTR (by rfl) B.sorted PyProof.Rows.boot_sorted (pa_cons (pv 0) pa_nil) (pk_cons pe_bl pk_nil)) pa_nil))), ?_⟩
  refine ⟨_, rfl, a, ns, rfl, rfl, hS, fun p hp => ?_⟩
  refine ⟨p, _, rfl, .inl ⟨.inl (.inl upd_same), fun l hl => ?_⟩⟩
  have np : H l = none := by
    by_cases c : l = p
    · rw [c]; exact hp
    · rw [upd_ne c] at hl; exact hl
  exact q _ l ((same_upd hp).trans (same_upd hl)) np upd_same
/-! ### is_nested_in -/
def spNestedIn (K : PySem.W.Frag) : Sp := fun vs H Q _ => ∃ (a : Addr) (ns : List Int), vs = [.ref a] ∧ SqT K H a (Is ns) ∧ ns.length ≤ 64 ∧ ∀ H', Same H H' → Q (.bl (Nst.nestedB ns)) H'
theorem scNestedIn : FnScope ["row", "at", "entry", "one"] ["row"] (defScope sNestedIn) := ⟨rfl, rfl, rfl, by decide +kernel, rfl, by decide +kernel, by decide +kernel⟩
theorem ok_nestedIn {f : Addr} {fd : FuncData} {k : Nat} (B : Bn mg) (F : Fun K "is_nested_in" "is_nested_in" sNestedIn f fd) : FnOk P w K mg base CX0 (k + 1) f fd ["row"] (spNestedIn K) := by
  refine F.ok scNestedIn (fun vs H Q E h => ?_) (fun cdv A outer s H vs Q E hr h => ?_)
  · obtain ⟨a, ns, rfl, _⟩ := h
    rfl
  obtain ⟨a, ns, rfl, hS, few, q⟩ := h
  refine ⟨_, pss_cons (ps_for PassesOwn.never rfl (pi_enumT (by rfl) B.enum (pa_cons (pv 0) pa_nil)) (pg_tup rfl (pgs_cons (pg_name (i := 1) scNestedIn.nd rfl (.inr rfl)) (pgs_cons (pg_name (i := 2) scNestedIn.nd rfl (.inl rfl)) pgs_nil)))
      (pss_one (ps_if (PW.pt (pw_and (pt_cmpR op_gt (pv 2) (pv 1) (nomark _)) (pw_and1 (pt_cmpR op_ne (pe_callB call_len_seq (by rfl) B.len PySem.boot_len (pa_cons
          (pe_lc (own := [("one", 3)]) (g := gName 3) rfl scNestedIn.nd (pi_tup (pv 0)) (blkOk_by (N := ["row", "at", "entry", "one"]) (sc := defScope sNestedIn) (by decide +kernel))
            (fun _ _ _ _ _ => pg_name (i := 3) scNestedIn.nd rfl (Or.inl rfl)) (fun _ _ _ _ _ => pts_one (pt_cmpR op_gt (pv 3) (pv 1) (nomark _))) (fun _ _ _ _ _ => pv 3)) pa_nil)) (pe_op op_add (pv 2) pe_int) (nomark _)))))
        (pss_one (ps_ret pe_bl)) pss_nil)))
    (pss_one (ps_ret pe_bl)), ?_⟩
  refine ⟨_, rfl, a, Is ns, rfl, hS, for_it (walk_enumT (xs := Is ns)) (fun i σ H' => ∃ y1 y2 y3, σ = [some (.ref a), y1, y2, y3] ∧ Same H H' ∧ Nst.nestedFrom ns i (ns.drop i) = Nst.nestedB ns) ⟨_, _, _, rfl, Same.refl _, rfl⟩
    (fun i σ H' _ p => ?_) (fun i x σ H1 H2 hi p y => ?_) (fun σ H' p => ?_)⟩
  · obtain ⟨_, _, _, _, sm, _⟩ := p
    exact Same.tupAt sm hS
  · obtain ⟨y1, y2, y3, rfl, sm, hN⟩ := p
    obtain ⟨T, x1, x2, rfl, nT, rfl, hx1, hx2⟩ := y
    obtain rfl : V.int (i : Nat) = x1 := Option.some.inj hx1
    obtain ⟨e, he, rfl⟩ := is_get hx2
    have sm2 : Same H (upd H1 T (.tup [.int (i : Nat), .int e])) := sm.trans (same_upd nT)
    refine ⟨T, _, rfl, .inl (.inl upd_same), rfl, _, _, rfl, _, _, rfl, rfl, ?_⟩
    have hd : ns.drop i = e :: ns.drop (i + 1) := by
      obtain ⟨h1, h2⟩ := List.getElem?_eq_some_iff.mp he
      rw [List.drop_eq_getElem_cons h1, h2]
    rw [hd] at hN
    have hN2 : (if (decide ((i : Int) < e) && !decide ((((ns.filter fun o => decide ((i : Int) < o)).length : Nat) : Int) = e + 1)) = true then false else Nst.nestedFrom ns (i + 1) (ns.drop (i + 1))) = Nst.nestedB ns := hN
    refine ⟨_, rfl, _, rfl, _, _, rfl, rfl, _, rfl, ?_⟩
    refine ite2 (fun c => ?_) (fun c => ?_)
    · have c1 : decide ((i : Int) < e) = true := c
      rw [c1, Bool.true_and] at hN2
      -- the count
      refine ⟨_, rfl, a, rfl, ⟨_, Same.tupAt sm2 hS⟩, fun D hD => lc_tup (xs := Is ns) (fun j H' => Same H H' ∧ H' D = some (.lst (Is ((ns.take j).filter fun o => decide ((i : Int) < o))))) ⟨sm2.trans (same_upd hD), by rw [upd_same]; rfl⟩
        (fun j H' _ p => Same.tupAt p.1 hS) (fun j x H' hx p => ?_) fun H' p => ?_⟩
      · obtain ⟨o, ho, rfl⟩ := is_get hx
        have hD2 : H D = none := Same.free sm2 hD
        have tk : ns.take (j + 1) = ns.take j ++ [o] := take_more ho
        refine ⟨rfl, _, rfl, _, rfl, _, _, rfl, rfl, _, rfl, ?_⟩
        refine ite2 (fun d => ?_) (fun d => ?_)
        · have d1 : decide ((i : Int) < o) = true := d
          refine ⟨_, rfl, _, p.2, ?_, same_at p.1 hD2, ?_⟩
          · rw [is_len]
            exact small1000 (Nat.le_trans (List.length_filter_le _ _) (by rw [List.length_take]; omega))
          · rw [upd_same, tk, List.filter_append]
            have e1 : [o].filter (fun o => decide ((i : Int) < o)) = [o] := List.filter_cons_of_pos d1
            rw [e1]
            show some (HO.lst (Is _ ++ [V.int o])) = some (HO.lst (List.map V.int (_ ++ [o])))
            rw [List.map_append]
            rfl
        · have d1 : ¬ decide ((i : Int) < o) = true := d
          refine ⟨p.1, ?_⟩
          rw [tk, List.filter_append]
          have e1 : [o].filter (fun o => decide ((i : Int) < o)) = [] := List.filter_cons_of_neg d1
          rw [e1, List.append_nil]
          exact p.2
      · have p2 := p.2
        rw [is_len, List.take_length] at p2
        refine ⟨D, _, rfl, .inl (.inl (.inl p2)), _, rfl, _, _, rfl, rfl, rfl, _, rfl, ?_⟩
        rw [decV, is_len]
        refine ite2 (fun d => ?_) (fun d => ?_)
        · rw [if_pos d] at hN2
          show Q (.bl false) H'
          rw [hN2]
          exact q H' p.1
        · rw [if_neg d] at hN2
          exact ⟨_, _, _, rfl, p.1, hN2⟩
    · have c1 : decide ((i : Int) < e) = false := Bool.eq_false_iff.mpr c
      rw [c1, Bool.false_and, if_neg Bool.false_ne_true] at hN2
      exact ⟨_, _, _, rfl, sm2, hN2⟩
  · obtain ⟨y1, y2, y3, rfl, sm, hN⟩ := p
    rw [is_len, List.drop_length] at hN
    show Q (.bl true) H'
    have e : true = Nst.nestedB ns := hN
    rw [e]
    exact q H' sm
/-! ### is_nested_row -/
def spNestedRow (K : PySem.W.Frag) : Sp := fun vs H Q _ => ∃ (a : Addr) (ns : List Int), vs = [.ref a] ∧ SqT K H a (Is ns) ∧ Row ns ∧ ∀ H', Same H H' → Q (.bl (Nst.nestedB (Nst.isD ns))) H'
theorem scNestedRow : FnScope ["degrees"] ["degrees"] (defScope sNestedRow) := ⟨rfl, rfl, rfl, by decide +kernel, rfl, by decide +kernel, by decide +kernel⟩
theorem ok_nestedRow {f g g2 g3 : Addr} {fd gd gd2 gd3 : FuncData} (F : Fun K "is_nested_row" "is_nested_row" sNestedRow f fd) (G : Df P w K mg base "require_row" ["value"] 5 (spReq K) g gd) (G2 : Df P w K mg base "falling" ["row"] 1 (spFalling K) g2 gd2)
    (G3 : Df P w K mg base "is_nested_in" ["row"] 1 (spNestedIn K) g3 gd3) : FnOk P w K mg base CX0 6 f fd ["degrees"] (spNestedRow K) := by
  refine F.ok scNestedRow (fun vs H Q E h => ?_) (fun cdv A outer s H vs Q E hr h => ?_)
  · obtain ⟨a, ns, rfl, _⟩ := h
    rfl
  obtain ⟨a, ns, rfl, hS, hR, q⟩ := h
  refine ⟨_, pss_cons (ps_expr (pe_df G hr (pa_cons (pv 0) pa_nil))) (pss_one (ps_ret (pe_df G3 hr (pa_cons (pe_df G2 hr (pa_cons (pv 0) pa_nil)) pa_nil)))), ?_⟩
  refine ⟨_, rfl, a, ns, rfl, hS, hR, fun H1 s1 => ?_⟩
  refine ⟨_, rfl, a, ns, rfl, Same.tupAt s1 hS, fun H2 p s2 _ hp => ?_⟩
  refine ⟨p, _, rfl, .inl (.inl hp), by rw [(Nst.isD_perm ns).length_eq]; exact hR.few, fun H3 s3 => q H3 (s1.trans (s2.trans s3))⟩
end
end Kq

namespace Nst
theorem nin_row : ∀ (n : Nat) (t : Int), ∀ r ∈ nin n t, r.length = n
  | 0, t, r, h => by simp [nin] at h
  | n + 1, t, r, h => by
    unfold nin at h
    split at h
    · simp at h
    · split at h
      · rename_i e
        subst e
        rw [List.mem_singleton.mp h]
        rfl
      · rcases List.mem_append.mp h with h | h
        · obtain ⟨s, hs, e⟩ := List.mem_map.mp h
          have q := nin_row n t s hs
          rw [← e, List.length_append, q]
          rfl
        · obtain ⟨s, hs, e⟩ := List.mem_map.mp h
          have q := nin_row n _ s hs
          rw [← e, List.length_cons, List.length_map, q]
theorem nin_few : ∀ (n : Nat) (t : Int), (nin n t).length ≤ 2 ^ n
  | 0, t => by simp [nin]
  | n + 1, t => by
    unfold nin
    split
    · simp
    · split
      · have q : 1 ≤ 2 ^ (n + 1) := Nat.one_le_two_pow
        simpa using q
      · rw [List.length_append, List.length_map, List.length_map]
        have a := nin_few n t
        have b := nin_few n (t - 2 * (n : Int))
        rw [Nat.pow_succ]
        omega
end Nst
namespace Kq
open PySem PySem.Spec PyProof.Rows L2 KR
theorem pow16 {n : Nat} (h : n ≤ 16) : 2 ^ n ≤ 65536 := Nat.pow_le_pow_right (by decide) h
theorem line16' {n : Nat} (h : n ≤ 65536) : n < sizeLine := by
  rw [sizeLine_eq]
  omega
theorem line16 {n : Nat} (h : n ≤ 65536) : n < sizeLine := by
  rw [sizeLine_eq]
  omega
theorem pa_starK {X : Cx} {K : PySem.W.Frag} {e : Expr} {es : List Expr} {te : TE} {t : TA} {p : Pos} (hK : X.K = K) (he : PE X e te) (hr : PA X es t) (hs : starEach (.Starred e p :: es) X.env = (true, eval e X.env) :: starEach es X.env := by rfl) : PA X (.Starred e p :: es) (StX.tStar K te t) := by
  subst hK
  exact StX.pa_star he hr hs
section
variable {P : Program} {w : World} {K : PySem.W.Frag} {mg : Str → Option Value} {base : Heap}
/-! ### nested_in -/
def spNin (K : PySem.W.Frag) (n : Nat) : Sp := fun vs H Q _ => ∃ p t : Int, vs = [.int p, .int t] ∧ 1 ≤ p ∧ p ≤ (n : Int) ∧
  ∀ H' r xs, Same H H' → H r = none → H' r = some (.lst xs) → Tups K H' xs (Nst.nin p.toNat t) → Q (.ref r) H'
theorem scNin : FnScope ["places", "total", "row", "rows", "one"] ["places", "total"] (defScope sNin) := ⟨rfl, rfl, rfl, by decide +kernel, rfl, by decide +kernel, by decide +kernel⟩
theorem ok_nin {f : Addr} {fd : FuncData} {n : Nat} (hn : n ≤ 15) (F : Fun K "nested_in" "nested_in" sNin f fd) (G : Df P w K mg base "nested_in" ["places", "total"] n (spNin K n) f fd) : FnOk P w K mg base CX0 (n + 1) f fd ["places", "total"] (spNin K (n + 1)) := by
  refine F.ok scNin (fun vs H Q E h => ?_) (fun cdv A outer s H vs Q E hr h => ?_)
  · obtain ⟨p, t, rfl, _⟩ := h
    rfl
  obtain ⟨p, t, rfl, p1, p2, q⟩ := h
  have nd := scNin.nd
  refine ⟨_, pss_cons (ps_if (PW.pt (pw_or (pt_cmpR op_lt (pv 1) pe_int (nomark _)) (pw_or1 (pt_cmpR op_gt (pv 1) (pe_op op_mul (pv 0) (pe_op op_sub (pv 0) pe_int)) (nomark _))))) (pss_one (ps_ret (pe_lst pa_nil))) pss_nil)
    (pss_cons (ps_if (pt_cmpR op_eq (pv 0) pe_int (nomark _)) (pss_one (ps_ret (pe_lst (pa_cons (pe_tup (pa_cons pe_int pa_nil)) pa_nil)))) pss_nil)
    (pss_cons (ps_setLc (i := 3) (own := [("row", 2)]) (g := gName 2) (tt := tYes) (by rfl) nd rfl rfl (sw_true rfl rfl rfl (by decide +kernel)) (pi_list (pe_df G hr (pa_cons (pe_op op_sub (pv 0) pe_int) (pa_cons (pv 1) pa_nil)) (Nat.le_refl _)))
        (blkOk_by (N := ["places", "total", "row", "rows", "one"]) (sc := defScope sNin) (by decide +kernel)) (fun _ _ _ _ _ => pg_name (i := 2) nd rfl (Or.inl rfl)) (fun _ _ _ _ _ => pts_nil) (fun _ _ _ _ _ => pe_tup (pa_starK (K := K) rfl (pv 2) (pa_cons pe_int pa_nil))))
    (pss_cons (ps_for PassesOwn.never rfl (pi_list (pe_df G hr (pa_cons (pe_op op_sub (pv 0) pe_int) (pa_cons (pe_op op_sub (pv 1) (pe_op op_mul pe_int (pe_op op_sub (pv 0) pe_int))) pa_nil)) (Nat.le_refl _))) (pg_name (i := 2) nd rfl (.inl rfl))
        (pss_one (ps_expr (pe_bm PySem.F.plainAttrs_list PySem.F.slot_list_append PySem.F.type_list_append mt_append (pv 3) (pa_cons (pe_tup (pa_cons (pe_op op_sub (pv 0) pe_int) (pa_starK (K := K) rfl
          (pe_lc (own := [("one", 4)]) (g := gName 4) (tt := tYes) rfl nd (pi_tup (pv 2)) (blkOk_by (N := ["places", "total", "row", "rows", "one"]) (sc := defScope sNin) (by decide +kernel))
            (fun _ _ _ _ _ => pg_name (i := 4) nd rfl (Or.inl rfl)) (fun _ _ _ _ _ => pts_nil) (fun _ _ _ _ _ => pe_op op_add (pv 4) pe_int)) pa_nil))) pa_nil)))))
    (pss_one (ps_ret (pv 3)))))), ?_⟩
  obtain ⟨m, em⟩ : ∃ m : Nat, p = (m : Int) + 1 := ⟨(p - 1).toNat, by omega⟩
  subst em
  have tn : ((m : Int) + 1).toNat = m + 1 := by omega
  have tm : ((m : Int) + 1 - 1).toNat = m := by omega
  have pm : ((m : Int) + 1) * ((m : Int) + 1 - 1) = ((m + 1 : Nat) : Int) * (m : Int) := by
    rw [show (m : Int) + 1 - 1 = (m : Int) by omega]
    rfl
  rw [tn] at q
  have lm : m ≤ 15 := by omega
  -- the two early ends
  have out0 : (t < 0 ∨ t > ((m + 1 : Nat) : Int) * (m : Int)) → ∀ r, H r = none → Q (.ref r) (upd H r (.lst [])) := fun c r hr' => by
    refine q _ r [] (same_upd hr') hr' upd_same ?_
    have e : Nst.nin (m + 1) t = [] := by unfold Nst.nin; exact if_pos c
    rw [e]
    exact .nil
  refine ⟨_, rfl, _, _, rfl, rfl, _, rfl, ?_⟩
  refine ite2 (fun c => ?_) (fun c => ?_)
  · exact ⟨Nat.zero_le _, out0 (.inl (of_decide_eq_true c))⟩
  have c1 : ¬ t < 0 := of_decide_eq_false (Bool.eq_false_iff.mpr c)
  refine ⟨_, rfl, _, rfl, _, rfl, _, _, rfl, rfl, _, _, rfl, rfl, .inl ⟨by omega, by omega⟩, _, _, rfl, rfl, _, rfl, ?_⟩
  refine ite2 (fun c => ?_) (fun c => ?_)
  · refine ⟨Nat.zero_le _, out0 (.inr ?_)⟩
    have d := of_decide_eq_true c
    rw [pm] at d
    exact d
  have c2 : ¬ t > ((m + 1 : Nat) : Int) * (m : Int) := by
    have d := of_decide_eq_false (Bool.eq_false_iff.mpr c)
    rw [pm] at d
    exact d
  have en : Nst.nin (m + 1) t = if m = 0 then [[0]] else (Nst.nin m t).map (fun r => r ++ [0]) ++ (Nst.nin m (t - 2 * (m : Int))).map (fun r => (m : Int) :: r.map (fun o => o + 1)) := by
    conv => lhs; unfold Nst.nin
    exact if_neg (by intro z; rcases z with z | z; exact c1 z; exact c2 z)
  refine ⟨_, rfl, rfl, _, rfl, ?_⟩
  rw [decV]
  refine ite2 (fun c => ?_) (fun c => ?_)
  · have d : (m : Int) + 1 = 1 := of_decide_eq_true c
    have m0 : m = 0 := by omega
    rw [if_pos m0] at en
    refine ⟨by show 1 ≤ sizeLine; decide, fun a na => ⟨by show 1 ≤ sizeLine; decide, fun r nr => ?_⟩⟩
    have nra : a ≠ r := fun e => by rw [e, upd_same] at nr; cases nr
    have nr0 : H r = none := by rw [upd_ne (Ne.symm nra)] at nr; exact nr
    refine q _ r _ ((same_upd na).trans (same_upd nr)) nr0 upd_same ?_
    rw [en]
    refine tups_one (.inl (.inl ?_))
    rw [upd_ne nra, upd_same]
    rfl
  have d : ¬ (m : Int) + 1 = 1 := of_decide_eq_false (Bool.eq_false_iff.mpr c)
  have m0 : ¬ m = 0 := by omega
  rw [if_neg m0] at en
  -- rows = [(*row, 0) ..]
  refine ⟨_, rfl, _, _, rfl, rfl, _, rfl, _, _, rfl, by omega, by omega, fun H1 r1 xs1 s1 _ e1 T1 => ?_⟩
  rw [tm] at T1
  have l1 : xs1.length = (Nst.nin m t).length := tups_len T1
  have few1 : (Nst.nin m t).length ≤ 32768 := Nat.le_trans (Nst.nin_few m t) (Nat.pow_le_pow_right (by decide) lm)
  refine ⟨r1, rfl, ⟨_, .inl (.inl e1)⟩, fun D nD => lc_list (xs := xs1) (fun i H' => Same H1 H' ∧ ∃ ys, H' D = some (.lst ys) ∧ Tups K H' ys (((Nst.nin m t).take i).map fun r => r ++ [0])) ⟨same_upd nD, [], upd_same, .nil⟩
    (fun i H' _ z => z.1.seq (.inl (.inl e1))) (fun i x H' hx z => ?_) fun H2 z => ?_⟩
  · obtain ⟨sm, ys, hD, hT⟩ := z
    have hi : i < (Nst.nin m t).length := by rw [← l1]; exact (List.getElem?_eq_some_iff.mp hx).1
    have hrow : (Nst.nin m t)[i]? = some (Nst.nin m t)[i] := List.getElem?_eq_getElem hi
    generalize (Nst.nin m t)[i] = row at hrow
    obtain ⟨tp, hx2, hq⟩ := tups_get T1 hrow
    rw [hx] at hx2
    obtain rfl : x = V.ref tp := Option.some.inj hx2
    have rl : row.length = m := Nst.nin_row m t row (List.mem_of_getElem? hrow)
    refine ⟨rfl, ?_⟩
    refine ⟨_, rfl, tp, Is row, rfl, .inl (Same.tupAt sm hq), ?_, fun a na => ?_⟩
    · rw [List.length_append, is_len, rl]
      show m + 1 ≤ sizeLine
      rw [sizeLine_eq]
      omega
    · have nDa : D ≠ a := ne_of_none hD na
      have na1 : H1 a = none := Same.free sm na
      have hD4 : (upd H' a (.tup (Is row ++ [.int 0]))) D = some (.lst ys) := by rw [upd_ne nDa]; exact hD
      refine ⟨ys, hD4, ?_, same_at (sm.trans (same_upd na)) nD, _, upd_same, ?_⟩
      · rw [tups_len hT, List.length_map, List.length_take]
        exact line16 (by omega)
      · rw [take_more hrow, List.map_append]
        refine tups_app (SameX.tups hD4 SameX.upd (Same.tups (same_upd na) hT)) (tups_one (.inl (.inl ?_)))
        rw [upd_ne (Ne.symm nDa), upd_same]
        show some (HO.tup (Is row ++ [V.int 0])) = some (HO.tup (List.map V.int (row ++ [0])))
        rw [List.map_append]
        rfl
  · obtain ⟨sm2, ys, hD, hT⟩ := z
    rw [l1, List.take_length] at hT
    have s2 : Same H H2 := s1.trans sm2
    have lys : ys.length ≤ 32768 := by rw [tups_len hT, List.length_map]; exact few1
    -- the second call
    have ed : t - 2 * ((m : Int) + 1 - 1) = t - 2 * (m : Int) := by omega
    refine ⟨_, rfl, _, _, rfl, rfl, _, rfl, _, rfl, _, _, rfl, rfl, _, _, rfl, rfl, .inl ⟨by decide, by decide⟩, _, _, rfl, rfl, _, _, rfl, by omega, by omega, fun H3 r2 xs2 s3 nr2 e2 T2 => ?_⟩
    rw [tm, ed] at T2
    generalize t - 2 * (m : Int) = t2 at T2 en
    have l2 : xs2.length = (Nst.nin m t2).length := tups_len T2
    have few2 : (Nst.nin m t2).length ≤ 32768 := Nat.le_trans (Nst.nin_few m t2) (Nat.pow_le_pow_right (by decide) lm)
    have nr2D : r2 ≠ D := fun e => by rw [e, hD] at nr2; cases nr2
    have nDH : H D = none := Same.free s1 nD
    refine ⟨r2, rfl, ⟨_, .inl (.inl e2)⟩, for_list (xs := xs2) (fun i σ H' => ∃ y2 y4, σ = [some (.int ((m : Int) + 1)), some (.int t), y2, some (.ref D), y4] ∧ SameX D H3 H' ∧
        ∃ zs, H' D = some (.lst zs) ∧ Tups K H' zs ((Nst.nin m t).map (fun r => r ++ [0]) ++ ((Nst.nin m t2).take i).map (fun r => (m : Int) :: r.map (fun o => o + 1))))
      ⟨_, _, rfl, SameX.refl _ _, ys, s3 _ _ hD, ?_⟩ (fun i σ H' _ z => ?_) (fun i x σ H' hx z => ?_) fun σ H' z => ?_⟩
    · rw [List.take_zero, List.map_nil, List.append_nil]
      exact Same.tups s3 hT
    · obtain ⟨_, _, _, sx, _⟩ := z
      exact .inl (.inl (sx _ _ nr2D e2))
    · obtain ⟨y2, y4, rfl, sx, zs, hz, hZ⟩ := z
      have hi : i < (Nst.nin m t2).length := by rw [← l2]; exact (List.getElem?_eq_some_iff.mp hx).1
      have hrow : (Nst.nin m t2)[i]? = some (Nst.nin m t2)[i] := List.getElem?_eq_getElem hi
      generalize (Nst.nin m t2)[i] = row at hrow
      obtain ⟨tp, hx2, hq⟩ := tups_get T2 hrow
      rw [hx] at hx2
      obtain rfl : x = V.ref tp := Option.some.inj hx2
      have rl : row.length = m := Nst.nin_row m t2 row (List.mem_of_getElem? hrow)
      have hq' : SqT K H' tp (Is row) := SameX.tupAt (s3 _ _ hD) sx hq
      have lzs : zs.length ≤ 65536 := by
        rw [tups_len hZ, List.length_append, List.length_map, List.length_map, List.length_take]
        omega
      refine ⟨_, rfl, .inl ⟨rfl, _, SqL.of hz⟩, _, rfl, _, _, rfl, rfl, _, rfl, tp, rfl, ⟨_, hq'⟩, fun D2 nD2 => lc_tup (xs := Is row) (fun j H4 => Same H' H4 ∧ H4 D2 = some (.lst (Is ((row.take j).map fun o => o + 1)))) ⟨same_upd nD2, upd_same⟩
        (fun j H4 _ z => Same.tupAt z.1 hq') (fun j x H4 hx z => ?_) fun H4 z => ?_⟩
      · obtain ⟨o, ho, rfl⟩ := is_get hx
        have hj : j < row.length := (List.getElem?_eq_some_iff.mp ho).1
        refine ⟨rfl, ?_⟩
        refine ⟨_, rfl, _, _, rfl, rfl, _, z.2, ?_, same_at z.1 nD2, ?_⟩
        · rw [is_len, List.length_map, List.length_take]
          exact small1000 (by omega)
        · rw [upd_same, take_more ho, List.map_append]
          show some (HO.lst (Is _ ++ [V.int (o + 1)])) = some (HO.lst (List.map V.int (_ ++ [o + 1])))
          rw [List.map_append]
          rfl
      · obtain ⟨sm4, e4⟩ := z
        rw [is_len, List.take_length] at e4
        refine ⟨D2, _, rfl, .inr (.inl (.inl e4)), ?_, fun a na => ?_⟩
        · show (V.int ((m : Int) + 1 - 1) :: (Is (row.map fun o => o + 1) ++ [])).length ≤ sizeLine
          rw [List.length_cons, List.append_nil, is_len, List.length_map, rl, sizeLine_eq]
          omega
        have hz4 : H4 D = some (.lst zs) := sm4 _ _ hz
        have nDa : D ≠ a := ne_of_none hz4 na
        have hz5 : (upd H4 a (.tup (V.int ((m : Int) + 1 - 1) :: (Is (row.map fun o => o + 1) ++ [])))) D = some (.lst zs) := by rw [upd_ne nDa]; exact hz4
        refine ⟨D, zs, _, rfl, rfl, hz5, line16' lzs, ?_⟩
        refine ⟨_, _, rfl, ?_, _, upd_same, ?_⟩
        · exact sx.trans ((Same.x D (sm4.trans (same_upd na))).trans SameX.upd)
        · rw [take_more hrow, List.map_append, ← List.append_assoc]
          refine tups_app (SameX.tups hz5 SameX.upd (Same.tups (sm4.trans (same_upd na)) hZ)) (tups_one (.inl (.inl ?_)))
          rw [upd_ne (Ne.symm nDa), upd_same, List.append_nil]
          show some (HO.tup (V.int ((m : Int) + 1 - 1) :: Is (row.map fun o => o + 1))) = some (HO.tup (V.int (m : Int) :: Is (row.map fun o => o + 1)))
          rw [show (m : Int) + 1 - 1 = (m : Int) by omega]
    · obtain ⟨y2, y4, rfl, sx, zs, hz, hZ⟩ := z
      rw [l2, List.take_length, ← en] at hZ
      refine ⟨_, rfl, q H' D zs (fun b o e => sx b o (ne_of_none e nDH) (s3 _ _ (s2 _ _ e))) nDH hz hZ⟩
theorem nin_none {f : Addr} {fd : FuncData} : FnOk P w K mg base CX0 0 f fd ["places", "total"] (spNin K 0) := by
  have no : ∀ vs H Q E, ¬ spNin K 0 vs H Q E := fun vs H Q E h => by
    obtain ⟨p, t, _, h1, h2, _⟩ := h
    have h3 : p ≤ 0 := h2
    omega
  exact ⟨fun vs H Q E h => absurd h (no vs H Q E), fun A outer s H args us vs Q E _ _ _ _ h => absurd h (no vs H Q E)⟩
theorem nin_all {f : Addr} {fd : FuncData} (F : Fun K "nested_in" "nested_in" sNin f fd) (b : Binds K fd ["places", "total"] []) (m : mg "nested_in" = some (.ref f)) :
    ∀ n : Nat, n ≤ 16 → FnOk P w K mg base CX0 n f fd ["places", "total"] (spNin K n)
  | 0, _ => nin_none
  | n + 1, h => ok_nin (by omega) F ⟨nin_all F b m n (by omega), b, F.kp, m⟩
end
end Kq

namespace Kq
open PySem PySem.Spec PyProof.Rows L2 KR
theorem room4 {k : Nat} {A : Around} (hr : Room k A) : A.units + 4 < cLine := by
  have q := hr.un
  omega
theorem room64 {k : Nat} {A : Around} (hr : Room k A) : A.units + 64 < cLine := by
  have q := hr.un
  omega
theorem room65 {k : Nat} {A : Around} (hr : Room k A) : A.units + 65 < cLine := by
  have q := hr.un
  omega
theorem ifIx {c : Bool} {ta tb : TE} {σ : L2.St} {H : Hp} {R : VK} (h : ∀ n : Int, R (.int n) H) (h1 : c = true → ∃ n : Int, ∀ R : VK, R (.int n) H → ta σ H R) (h2 : ¬ c = true → ∃ n : Int, ∀ R : VK, R (.int n) H → tb σ H R) :
    if c = true then ta σ H R else tb σ H R := by
  by_cases e : c = true
  · rw [if_pos e]
    obtain ⟨n, z⟩ := h1 e
    exact z R (h n)
  · rw [if_neg e]
    obtain ⟨n, z⟩ := h2 e
    exact z R (h n)
section
variable {P : Program} {w : World} {K : PySem.W.Frag} {mg : Str → Option Value} {base : Heap}
/-! ### nested_rows -/
def spRows (K : PySem.W.Frag) : Sp := fun vs H Q _ => ∃ p t : Int, vs = [.int p, .int t] ∧ 1 ≤ p ∧ p ≤ 16 ∧ 0 ≤ t ∧
  ∀ H' r xs, Same H H' → H r = none → H' r = some (.tup xs) → Tups K H' xs (Nst.isA (Nst.nin p.toNat t)) → Q (.ref r) H'
theorem scRows : FnScope ["places", "total"] ["places", "total"] (defScope sRows) := ⟨rfl, rfl, rfl, by decide +kernel, rfl, by decide +kernel, by decide +kernel⟩
theorem ok_rows {f g g2 g3 : Addr} {fd gd gd2 gd3 : FuncData} {tp : Tok} (B : Bn mg) (F : Fun K "nested_rows" "nested_rows" sRows f fd) (G : Df P w K mg base "is_from" ["value", "first", "last"] 2 spFrom g gd) (G2 : Df P w K mg base "is_integer" ["value"] 1 spInteger g2 gd2)
    (G3 : Df P w K mg base "nested_in" ["places", "total"] 16 (spNin K 16) g3 gd3) (mp : mg "MAX_PLACES" = some (.int 16 tp)) : FnOk P w K mg base CX0 17 f fd ["places", "total"] (spRows K) := by
  refine F.ok scRows (fun vs H Q E h => ?_) (fun cdv A outer s H vs Q E hr h => ?_)
  · obtain ⟨p, t, rfl, _⟩ := h
    rfl
  obtain ⟨p, t, rfl, p1, p2, t0, q⟩ := h
  refine ⟨_, pss_cons (ps_if (pt_not (pt_val (pe_df G hr (pa_cons (pv 0) (pa_cons pe_int (pa_cons (pe_glob (v := .int 16) rfl mp ⟨_, rfl⟩) pa_nil)))))) (pss_one ps_never) pss_nil)
    (pss_cons (ps_if (PW.pt (pw_or (pt_not (pt_val (pe_df G2 hr (pa_cons (pv 1) pa_nil)))) (pw_or1 (pt_cmpR op_lt (pv 1) pe_int (nomark _))))) (pss_one ps_never) pss_nil)
    (pss_one (ps_ret (pe_callTy call_tuple_of (by rfl) B.tup (by decide +kernel) (pa_cons (pe_callB (cr_sortedTs (room4 hr)) (by rfl) B.sorted PyProof.Rows.boot_sorted (pa_cons (pe_df G3 hr (pa_cons (pv 0) (pa_cons (pv 1) pa_nil))) pa_nil)) pa_nil))))), ?_⟩
  refine ⟨_, rfl, p, 1, 16, rfl, true, by rw [decide_eq_true ⟨p1, p2⟩], iteF ?_⟩
  refine ⟨_, rfl, t, rfl, true, rfl, iteF ?_⟩
  refine ⟨_, rfl, _, _, rfl, rfl, _, rfl, ?_⟩
  rw [decide_eq_false (by omega : ¬ t < 0)]
  refine iteF ?_
  refine ⟨_, rfl, _, rfl, p, t, rfl, p1, p2, fun H1 r1 xs s1 _ e1 T1 => ?_⟩
  refine ⟨r1, xs, _, rfl, .inl (.inl e1), T1, fun ns hn => ?_, fun a ys na hT => ?_⟩
  · have z := Nst.nin_row _ _ ns hn
    intro e
    subst e
    have z2 : (0 : Nat) = p.toNat := z
    omega
  · refine ⟨a, _, rfl, .inl ⟨.inl (.inl upd_same), fun l nl => ?_⟩⟩
    have s2 := (same_upd (o := .lst ys) na).trans (same_upd (o := .tup ys) nl)
    have nl1 : H l = none := Same.free (s1.trans (same_upd na)) nl
    exact q _ l ys (s1.trans s2) nl1 upd_same (Same.tups s2 hT)
/-! ### _law_vat -/
def spVat (K : PySem.W.Frag) : Sp := fun vs H Q _ => ∃ (a : Addr) (ns : List Int) (i : Int), vs = [.ref a, .int i] ∧ SqL K H a (Is ns) ∧ 0 ≤ i ∧ ∀ r x y z, H r = none → Q (.ref r) (upd H r (.lst [.int x, .int y, .int z]))
theorem scVat : FnScope ["_law_script", "_law_spot", "_law_cell", "_law_great", "_law_seed"] ["_law_script", "_law_spot"] (defScope sVat) := ⟨rfl, rfl, rfl, by decide +kernel, rfl, by decide +kernel, by decide +kernel⟩
theorem pow_ok : CPw ((10 : Int) ^ (58 : Int).toNat) 9 := ⟨by decide, by decide +kernel⟩
theorem pow_pos9 : (0 : Int) < ((10 : Int) ^ (58 : Int).toNat) ^ (9 : Int).toNat := by decide +kernel
theorem ok_vat {f : Addr} {fd : FuncData} {k : Nat} (B : Bn mg) (F : Fun K "_law_vat" "_law_vat" sVat f fd) : FnOk P w K mg base CX0 (k + 1) f fd ["_law_script", "_law_spot"] (spVat K) := by
  refine F.ok scVat (fun vs H Q E h => ?_) (fun cdv A outer s H vs Q E hr h => ?_)
  · obtain ⟨a, ns, i, rfl, _⟩ := h
    rfl
  obtain ⟨a, ns, i, rfl, hS, i0, q⟩ := h
  have nd := scVat.nd
  refine ⟨_, pss_cons (ps_set (i := 2) nd rfl (.inl rfl) (pe_ifExp (pt_cmpR op_lt (pv 1) (pe_callB call_len_seq (by rfl) B.len PySem.boot_len (pa_cons (pv 0) pa_nil)) (nomark _)) (pe_ix ix_list (pv 0) (pv 1) (fun _ _ => rfl)) (pe_op op_add (pe_op op_mul pe_int (pv 1)) pe_int)))
    (pss_cons (ps_set (i := 3) nd rfl (.inl rfl) (pe_op op_mod (pe_callTy call_int1 (by rfl) B.int (by decide +kernel) (pa_cons (pe_callB call_abs (by rfl) B.abs (by decide +kernel) (pa_cons (pv 2) pa_nil)) pa_nil)) (pe_op op_powG (pe_op op_pow pe_int pe_int) pe_int)))
    (pss_cons (ps_set (i := 4) nd rfl (.inl rfl) (pe_op op_mod (pe_callTy call_int1 (by rfl) B.int (by decide +kernel) (pa_cons
        (pe_op op_add (pe_op op_add (pe_op op_add (pe_op op_mul (pv 3) pe_int) (pe_op op_mul pe_int (pv 1))) (pe_op op_mul pe_int (pe_callTy call_int1 (by rfl) B.int (by decide +kernel) (pa_cons (pe_cmpR op_lt (pv 2) pe_int (nomark _)) pa_nil)))) pe_int) pa_nil)) pe_int))
    (pss_one (ps_ret (pe_lst (pa_cons (pe_callB (call_max2 rfl) (by rfl) B.max (by decide +kernel) (pa_cons pe_int (pa_cons (pe_op op_sub (pv 3) (pe_op op_pow pe_int pe_int)) pa_nil))) (pa_cons (pv 4) (pa_cons pe_int pa_nil)))))))), ?_⟩
  refine ⟨_, rfl, _, rfl, a, _, rfl, .inl hS, _, _, rfl, rfl, _, rfl, ?_⟩
  refine ifIx (fun c => ?_) (fun c => ?_) (fun c => ⟨67 * i + 19, fun R z => ⟨_, rfl, _, _, rfl, rfl, .inl ⟨by decide, by decide⟩, _, _, rfl, rfl, z⟩⟩)
  · refine ⟨_, rfl, _, rfl, .inl ⟨_, rfl, _, _, rfl, rfl, ⟨by decide, by decide, by decide⟩, _, _, rfl, rfl, pow_ok, _, _, rfl, rfl, pow_pos9, ?_⟩⟩
    generalize ((10 : Int) ^ (58 : Int).toNat) ^ (9 : Int).toNat = N9
    generalize (if c < 0 then -c else c) % N9 = g
    refine ⟨_, rfl, _, _, rfl, rfl, .inr ⟨by decide, by decide⟩, _, rfl, _, _, rfl, rfl, .inl ⟨by decide, by decide⟩, _, _, rfl, rfl, _, rfl, _, _, rfl, rfl, .inr ⟨_, rfl, _, _, rfl, rfl, .inl ⟨by decide, by decide⟩, _, _, rfl, rfl, _, _, rfl, rfl, .inl ⟨_, rfl, _, _, rfl, rfl, (by show (0 : Int) < 1152921504606846883; decide), ?_⟩⟩⟩
    refine ⟨_, rfl, _, _, rfl, rfl, ⟨by decide, by decide, by decide⟩, _, _, rfl, rfl, _, _, rfl, _, rfl, by show 3 ≤ sizeLine; decide, fun r hr' => q r _ _ _ hr'⟩
  · have d : i < ((Is ns).length : Int) := of_decide_eq_true c
    rw [is_len] at d
    have li : i.toNat < ns.length := by omega
    refine ⟨ns[i.toNat], fun R z => ⟨_, rfl, _, rfl, a, _, i, _, rfl, rfl, hS, ?_, z⟩⟩
    have e : (Is ns)[i.toNat]? = some (V.int ns[i.toNat]) := by rw [List.getElem?_map, List.getElem?_eq_getElem li]; rfl
    exact at_of (by omega) e
/-! ### _law_dip -/
abbrev Vt (x y z : Int) : HO := .lst [.int x, .int y, .int z]
def spDip : Sp := fun vs H Q _ => ∃ (v : Addr) (n x y z : Int), vs = [.ref v, .int n] ∧ 0 < n ∧ n < 1073741824 ∧ H v = some (Vt x y z) ∧ ∀ r x' y' z', 0 ≤ r → r < n → Q (.int r) (upd H v (Vt x' y' z'))
theorem scDip : FnScope ["_law_vat_here", "_law_size", "_law_found", "_law_one", "_law_two"] ["_law_vat_here", "_law_size"] (defScope sDip) := ⟨rfl, rfl, rfl, by decide +kernel, rfl, by decide +kernel, by decide +kernel⟩
theorem ok_dip {f : Addr} {fd : FuncData} (B : Bn mg) (F : Fun K "_law_dip" "_law_dip" sDip f fd) : FnOk P w K mg base CX0 1 f fd ["_law_vat_here", "_law_size"] spDip := by
  refine F.ok scDip (fun vs H Q E h => ?_) (fun cdv A outer s H vs Q E hr h => ?_)
  · obtain ⟨v, n, x, y, z, rfl, _⟩ := h
    rfl
  obtain ⟨v, n, x, y, z, rfl, n0, n1, hv, q⟩ := h
  have nd := scDip.nd
  refine ⟨_, pss_cons (ps_if (pt_cmpR op_gt (pe_ix ix_list (pv 0) pe_int (fun _ _ => rfl)) pe_int (nomark _))
      (pss_cons (ps_set (i := 2) nd rfl (.inl rfl) (pe_op op_mod (pe_callTy call_int1 (by rfl) B.int (by decide +kernel) (pa_cons (pe_ix ix_list (pv 0) pe_int (fun _ _ => rfl)) pa_nil)) (pv 1)))
      (pss_cons (ps_asg (pe_op op_fdiv (pe_ix ix_list (pv 0) pe_int (fun _ _ => rfl)) (pv 1)) (pg_sub (pv 0) pe_int set_list))
      (pss_one (ps_ret (pv 2))))) pss_nil)
    (pss_cons (ps_asg (pe_op op_add (pe_ix ix_list (pv 0) pe_int (fun _ _ => rfl)) pe_int) (pg_sub (pv 0) pe_int set_list))
    (pss_cons (ps_set (i := 3) nd rfl (.inl rfl) (pe_op op_mod (pe_callTy call_int1 (by rfl) B.int (by decide +kernel) (pa_cons (pe_op op_add (pe_ix ix_list (pv 0) pe_int (fun _ _ => rfl)) (pe_op op_mul pe_int (pe_ix ix_list (pv 0) pe_int (fun _ _ => rfl)))) pa_nil)) pe_int))
    (pss_cons (ps_set (i := 4) nd rfl (.inl rfl) (pe_op op_add (pe_op op_mul (pe_op op_mod (pe_callTy call_int1 (by rfl) B.int (by decide +kernel) (pa_cons (pe_op op_mul (pv 3) (pv 3)) pa_nil)) pe_int) (pv 3)) (pe_op op_mul pe_int (pe_ix ix_list (pv 0) pe_int (fun _ _ => rfl)))))
    (pss_one (ps_ret (pe_op op_mod (pe_callTy call_int1 (by rfl) B.int (by decide +kernel) (pa_cons (pe_op op_fdiv (pe_op op_mod (pe_callTy call_int1 (by rfl) B.int (by decide +kernel) (pa_cons (pe_op op_add (pv 4) (pe_ix ix_list (pv 0) pe_int (fun _ _ => rfl))) pa_nil)) pe_int) pe_int) pa_nil)) (pv 1))))))), ?_⟩
  refine ⟨_, rfl, v, _, _, _, rfl, rfl, .inl (.inl hv), rfl, _, _, rfl, rfl, _, rfl, ?_⟩
  refine ite2 (fun c => ?_) (fun c => ?_)
  · refine ⟨_, rfl, v, _, _, _, rfl, rfl, .inl (.inl hv), rfl, .inl ⟨_, rfl, _, rfl, _, _, rfl, rfl, n0, ?_⟩⟩
    refine ⟨_, rfl, v, _, _, _, rfl, rfl, .inl (.inl hv), rfl, _, rfl, _, _, rfl, rfl, ⟨n0, n1⟩, _, rfl, v, _, _, 0, rfl, rfl, hv, rfl, ?_⟩
    exact ⟨_, rfl, q _ _ _ _ (Int.emod_nonneg _ (by omega)) (Int.emod_lt_of_pos _ n0)⟩
  · refine ⟨_, rfl, v, _, _, _, rfl, rfl, .inl (.inl hv), rfl, _, _, rfl, rfl, _, rfl, v, _, _, 2, rfl, rfl, hv, rfl, ?_⟩
    have hv2 : (upd H v (Vt x y (z + 1))) v = some (Vt x y (z + 1)) := upd_same
    refine ⟨_, rfl, v, _, _, _, rfl, rfl, .inl (.inl hv2), rfl, _, rfl, v, _, _, _, rfl, rfl, .inl (.inl hv2), rfl, _, _, rfl, rfl, .inl ⟨by decide, by decide⟩, _, _, rfl, rfl, .inl ⟨_, rfl, _, _, rfl, rfl, (by show (0 : Int) < 2305843009213693967; decide), ?_⟩⟩
    have one0 : 0 ≤ (y + 961748927 * (z + 1)) % 2305843009213693967 := Int.emod_nonneg _ (by decide)
    have one1 : (y + 961748927 * (z + 1)) % 2305843009213693967 < 2305843009213693967 := Int.emod_lt_of_pos _ (by decide)
    generalize (y + 961748927 * (z + 1)) % 2305843009213693967 = one at one0 one1
    have two0 : 0 ≤ (one * one) % 1000000000000063 := Int.emod_nonneg _ (by decide)
    have two1 : (one * one) % 1000000000000063 < 1000000000000063 := Int.emod_lt_of_pos _ (by decide)
    refine ⟨_, rfl, _, rfl, _, _, rfl, rfl, .inl ⟨by omega, by omega⟩, .inl ⟨_, rfl, _, _, rfl, rfl, (by show (0 : Int) < 1000000000000063; decide), _, rfl, _, _, rfl, rfl, .inl ⟨by omega, by omega⟩, _, rfl, v, _, _, _, rfl, rfl, .inl (.inl hv2), rfl, _, _, rfl, rfl, .inl ⟨by decide, by decide⟩, _, _, rfl, rfl, ?_⟩⟩
    refine ⟨_, rfl, _, rfl, v, _, _, _, rfl, rfl, .inl (.inl hv2), rfl, _, _, rfl, rfl, .inl ⟨_, rfl, _, _, rfl, rfl, (by show (0 : Int) < 4398046511119; decide), _, _, rfl, rfl, ⟨by decide, by decide⟩, .inl ⟨_, rfl, _, rfl, _, _, rfl, rfl, n0, ?_⟩⟩⟩
    exact q _ _ _ _ (Int.emod_nonneg _ (by omega)) (Int.emod_lt_of_pos _ n0)
/-! ### _law_pick -/
def spPick (K : PySem.W.Frag) : Sp := fun vs H Q _ => ∃ (v a : Addr) (xs : List V) (x y z : Int), vs = [.ref v, .ref a] ∧ H v = some (Vt x y z) ∧ a ≠ v ∧ SqL K H a xs ∧ 0 < xs.length ∧ xs.length ≤ 1000 ∧
  ∀ u x' y' z', u ∈ xs → Q u (upd H v (Vt x' y' z'))
theorem scPick : FnScope ["_law_vat_here", "_law_items"] ["_law_vat_here", "_law_items"] (defScope sPick) := ⟨rfl, rfl, rfl, by decide +kernel, rfl, by decide +kernel, by decide +kernel⟩
theorem SameX.listAt {v : Addr} {H H' : Hp} {a : Addr} {xs : List V} (hn : a ≠ v) (e : SameX v H H') (h : SqL K H a xs) : SqL K H' a xs := by
  rcases h with (h | ⟨o, h⟩) | h
  · exact .inl (.inl (e _ _ hn h))
  · exact .inl (.inr ⟨o, e _ _ hn h⟩)
  · exact .inr h
theorem ok_pick {f g : Addr} {fd gd : FuncData} (B : Bn mg) (F : Fun K "_law_pick" "_law_pick" sPick f fd) (G : Df P w K mg base "_law_dip" ["_law_vat_here", "_law_size"] 1 spDip g gd) : FnOk P w K mg base CX0 2 f fd ["_law_vat_here", "_law_items"] (spPick K) := by
  refine F.ok scPick (fun vs H Q E h => ?_) (fun cdv A outer s H vs Q E hr h => ?_)
  · obtain ⟨v, a, xs, x, y, z, rfl, _⟩ := h
    rfl
  obtain ⟨v, a, xs, x, y, z, rfl, hv, ne, hS, l0, l1, q⟩ := h
  refine ⟨_, pss_one (ps_ret (pe_ix ix_list (pv 1) (pe_df G hr (pa_cons (pv 0) (pa_cons (pe_callB call_len_seq (by rfl) B.len PySem.boot_len (pa_cons (pv 1) pa_nil)) pa_nil))) (fun _ _ => rfl))), ?_⟩
  refine ⟨_, rfl, _, rfl, _, rfl, a, xs, rfl, .inl hS, v, (xs.length : Int), x, y, z, rfl, by omega, by omega, hv, fun r x' y' z' r0 r1 => ?_⟩
  have lr : r.toNat < xs.length := by omega
  exact ⟨a, xs, r, xs[r.toNat], rfl, rfl, SameX.listAt ne SameX.upd hS, at_of (by omega) (List.getElem?_eq_getElem lr), q _ _ _ _ (List.getElem_mem lr)⟩
end
end Kq

namespace Kq
open PySem PySem.Spec PyProof.Rows L2 KR
/-! ### rules with the written part as a letter, for blocks -/
section
variable {X : Cx} {K : PySem.W.Frag}
def rLenK (K : PySem.W.Frag) : List V → Hp → VK → Prop := fun xs H Q => ∃ p ys, xs = [.ref p] ∧ (SqL K H p ys ∨ SqT K H p ys) ∧ Q (.int ys.length) H
theorem call_lenK (hK : X.K = K) : CallR X (.builtin "len") (rLenK K) := by
  subst hK
  exact call_len_seq
theorem op_catK (hK : X.K = K) : OpR X (binaryOp .Add) (rCatT K) := by
  subst hK
  exact op_catT
theorem cr_sumK (hK : X.K = K) (hc : X.calm = true) : CallR X (.builtin "sum") (rSumT K) := by
  subst hK
  exact cr_sumT hc
theorem pe_popK {o e : Expr} {to : TE} {t : TA} {apos cpos : Pos} (hK : X.K = K) (ho : PE X o to) (ha : PA X [e] t)
    (hbase : attributeBase o "pop" X.env (eval o X.env) = eval o X.env := by rfl)
    (hfew : ((backTo cpos (starEach [e] X.env)).all (fun x => !x.1) && (backToKw cpos (keywordEach [] X.env)).all (fun x => x.1.isSome)
      && decide (([e] : List Expr).length + ([] : List Keyword).length + (if ([] : List Keyword).isEmpty then 0 else 1) < 30)) = true := by rfl)
    (hline : (apos.endLine == cpos.line) = true := by rfl) (hs : starEach [e] X.env = (false, eval e X.env) :: starEach [] X.env := by rfl) (hplain : (backTo cpos (starEach [] X.env)).any (·.1) = false := by rfl) :
    PE X (.Call (.Attribute o "pop" apos) [e] [] cpos) (tBM K "list" rPopAt to t) := by
  subst hK
  exact pe_bm PySem.F.plainAttrs_list PySem.F.slot_list_pop PySem.F.type_list_pop mt_popAt ho ha hbase hfew hline hs hplain
end
theorem erase_map {α β : Type} (f : α → β) : ∀ (l : List α) (i : Nat), (l.map f).eraseIdx i = (l.eraseIdx i).map f
  | [], _ => rfl
  | _ :: _, 0 => rfl
  | x :: l, i + 1 => by
    show f x :: (l.map f).eraseIdx i = f x :: (l.eraseIdx i).map f
    rw [erase_map f l i]
theorem erase_perm {α : Type} : ∀ (l : List α) (i : Nat) (h : i < l.length), (l[i] :: l.eraseIdx i).Perm l
  | [], _, h => absurd h (Nat.not_lt_zero _)
  | x :: l, 0, _ => List.Perm.refl _
  | x :: l, i + 1, h => by
    have q := erase_perm l i (Nat.lt_of_succ_lt_succ h)
    show (l[i]'(Nat.lt_of_succ_lt_succ h) :: x :: l.eraseIdx i).Perm (x :: l)
    exact (List.Perm.swap x _ _).trans (q.cons x)
theorem seq_ix {i : Int} {n : Nat} (h0 : 0 ≤ i) (h1 : i < (n : Int)) : seqIndex? i n = some i.toNat := by
  refine (ixN_seq (n := n) (i := i) (j := i.toNat) ?_).1
  unfold ixN
  rw [if_pos h0, if_pos h1]
section
variable {P : Program} {w : World} {K : PySem.W.Frag} {mg : Str → Option Value} {base : Heap}
/-! ### _law_mixed -/
def spMixed (K : PySem.W.Frag) : Sp := fun vs H Q _ => ∃ (v a : Addr) (ns : List Int) (x y z : Int), vs = [.ref v, .ref a] ∧ H v = some (Vt x y z) ∧ SqT K H a (Is ns) ∧ ns.length ≤ 64 ∧
  ∀ H' r ms x' y' z', SameX v H H' → H' v = some (Vt x' y' z') → H r = none → H' r = some (.lst (Is ms)) → ms.Perm ns → Q (.ref r) H'
theorem scMixed : FnScope ["_law_vat_here", "_law_items", "_law_left", "_law_turn"] ["_law_vat_here", "_law_items"] (defScope sMixed) := ⟨rfl, rfl, rfl, by decide +kernel, rfl, by decide +kernel, by decide +kernel⟩
theorem ok_mixed {f g : Addr} {fd gd : FuncData} (B : Bn mg) (F : Fun K "_law_mixed" "_law_mixed" sMixed f fd) (G : Df P w K mg base "_law_dip" ["_law_vat_here", "_law_size"] 1 spDip g gd) : FnOk P w K mg base CX0 2 f fd ["_law_vat_here", "_law_items"] (spMixed K) := by
  refine F.ok scMixed (fun vs H Q E h => ?_) (fun cdv A outer s H vs Q E hr h => ?_)
  · obtain ⟨v, a, ns, x, y, z, rfl, _⟩ := h
    rfl
  obtain ⟨v, a, ns, x, y, z, rfl, hv, hS, few, q⟩ := h
  have nd := scMixed.nd
  refine ⟨_, pss_cons (ps_set (i := 2) nd rfl (.inr rfl) (pe_callTy call_list_of (by rfl) B.list (by decide +kernel) (pa_cons (pv 1) pa_nil)))
    (pss_one (ps_ret (pe_lc (own := [("_law_turn", 3)]) (g := gName 3) (tt := tYes) rfl nd (pi_range1 (by rfl) B.range (pa_cons (pe_callB call_len_seq (by rfl) B.len PySem.boot_len (pa_cons (pv 1) pa_nil)) pa_nil))
      (blkOk_by (N := ["_law_vat_here", "_law_items", "_law_left", "_law_turn"]) (sc := defScope sMixed) (by decide +kernel)) (fun _ _ _ _ _ => pg_name (i := 3) nd rfl (Or.inl rfl)) (fun _ _ _ _ _ => pts_nil)
      (fun _ _ _ _ _ => pe_popK (K := K) rfl (pv 2) (pa_cons (pe_df G hr (pa_cons (pv 0) (pa_cons (pe_callB (call_lenK (K := K) rfl) (by rfl) B.len PySem.boot_len (pa_cons (pv 2) pa_nil)) pa_nil))) pa_nil))))), ?_⟩
  refine ⟨_, rfl, a, _, rfl, .inr hS, fun L nL => ?_⟩
  have nvL : v ≠ L := ne_of_none hv nL
  have s1 : Same H (upd H L (.lst (Is ns))) := same_upd nL
  refine ⟨_, rfl, a, _, rfl, .inr (Same.tupAt s1 hS), (ns.length : Int), by rw [is_len], by omega, by omega, fun D nD => ?_⟩
  have nDL : D ≠ L := fun e => by rw [e, upd_same] at nD; cases nD
  have nDH : H D = none := Same.free s1 nD
  have nvD : v ≠ D := ne_of_none hv nDH
  have en : ((ns.length : Int)).toNat = ns.length := by omega
  rw [en]
  refine lc_range (lo := 0) (n := ns.length) (fun i H' => SameX v H H' ∧ (∃ x y z, H' v = some (Vt x y z)) ∧ ∃ rest done, H' L = some (.lst (Is rest)) ∧ H' D = some (.lst (Is done)) ∧ (done ++ rest).Perm ns ∧ done.length = i)
    ⟨?_, ⟨x, y, z, ?_⟩, ns, [], ?_, upd_same, List.Perm.refl _, rfl⟩ (fun i H' hi p => ?_) fun H' p => ?_
  · exact fun b o nb e => by rw [upd_ne (ne_of_none e nDH)]; exact s1 _ _ e
  · rw [upd_ne nvD]
    exact s1 _ _ hv
  · rw [upd_ne (Ne.symm nDL), upd_same]
  · obtain ⟨sx, ⟨x1, y1, z1, hv1⟩, rest, done, hL, hD, pm, dl⟩ := p
    have rl : rest.length = ns.length - i := by
      have e := pm.length_eq
      rw [List.length_append] at e
      omega
    refine ⟨rfl, ?_⟩
    refine ⟨_, rfl, .inl ⟨rfl, _, SqL.of hL⟩, _, rfl, _, rfl, L, _, rfl, .inl (SqL.of hL), v, ((Is rest).length : Int), x1, y1, z1, rfl, ?_, ?_, hv1, fun r x2 y2 z2 r0 r1 => ?_⟩
    · rw [is_len]; omega
    · rw [is_len]; omega
    · rw [is_len] at r1
      have lr : r.toNat < rest.length := by omega
      have hL2 : (upd H' v (Vt x2 y2 z2)) L = some (.lst (Is rest)) := by rw [upd_ne (Ne.symm nvL)]; exact hL
      refine ⟨L, Is rest, r, r.toNat, V.int rest[r.toNat], rfl, rfl, hL2, by omega, by omega, ?_, ?_, ?_⟩
      · rw [is_len]
        exact seq_ix r0 (by omega)
      · rw [List.getElem?_map, List.getElem?_eq_getElem lr]
        rfl
      · have eL : (Is rest).eraseIdx r.toNat = Is (rest.eraseIdx r.toNat) := by
          exact erase_map V.int rest r.toNat
        rw [eL]
        have hD2 : (upd (upd H' v (Vt x2 y2 z2)) L (.lst (Is (rest.eraseIdx r.toNat)))) D = some (.lst (Is done)) := by
          rw [upd_ne nDL, upd_ne (Ne.symm nvD)]
          exact hD
        refine ⟨_, hD2, ?_, ?_, ⟨x2, y2, z2, ?_⟩, rest.eraseIdx r.toNat, done ++ [rest[r.toNat]], ?_, ?_, ?_, ?_⟩
        · rw [is_len, dl]
          exact small1000 (by omega)
        · exact fun b o nb e => by rw [upd_ne (ne_of_none e nDH), upd_ne (ne_of_none e nL), upd_ne nb]; exact sx b o nb e
        · rw [upd_ne nvD, upd_ne nvL, upd_same]
        · rw [upd_ne (Ne.symm nDL), upd_same]
        · rw [upd_same]
          show some (HO.lst (Is done ++ [V.int rest[r.toNat]])) = some (HO.lst (List.map V.int (done ++ [rest[r.toNat]])))
          rw [List.map_append]
          rfl
        · rw [List.append_assoc]
          exact ((erase_perm rest r.toNat lr).append_left done).trans pm
        · rw [List.length_append, dl]
          rfl
  · obtain ⟨sx, ⟨x1, y1, z1, hv1⟩, rest, done, hL, hD, pm, dl⟩ := p
    have r0 : rest = [] := by
      have e := pm.length_eq
      rw [List.length_append, dl] at e
      exact List.eq_nil_of_length_eq_zero (by omega)
    rw [r0, List.append_nil] at pm
    exact q H' D done x1 y1 z1 sx hv1 nDH hD pm
/-! ### _law_words -/
def spWords (K : PySem.W.Frag) : Sp := fun vs H Q _ => ∃ p : Int, vs = [.int p] ∧ 1 ≤ p ∧ p ≤ 8 ∧ ∀ H' r xs, Same H H' → H r = none → H' r = some (.lst xs) → Tups K H' xs (Nst.wordsK (p - 1).toNat) → Q (.ref r) H'
theorem scWords : FnScope ["_law_places", "_law_found", "_law_place", "_law_word"] ["_law_places"] (defScope sWords) := ⟨rfl, rfl, rfl, by decide +kernel, rfl, by decide +kernel, by decide +kernel⟩
theorem words_len : ∀ k, (Nst.wordsK k).length = 2 ^ k
  | 0 => rfl
  | k + 1 => by
    show ((Nst.wordsK k).map _ ++ (Nst.wordsK k).map _).length = _
    rw [List.length_append, List.length_map, List.length_map, words_len k, Nat.pow_succ]
    omega
theorem words_word : ∀ k, ∀ x ∈ Nst.wordsK k, x.length = k + 1
  | 0, x, h => by rw [List.mem_singleton.mp h]; rfl
  | k + 1, x, h => by
    rcases List.mem_append.mp h with h | h
    · obtain ⟨y, hy, e⟩ := List.mem_map.mp h
      rw [← e, List.length_append, words_word k y hy]
      rfl
    · obtain ⟨y, hy, e⟩ := List.mem_map.mp h
      rw [← e, List.length_append, words_word k y hy]
      rfl
/-- [word + (c,) for word in found] -/
theorem more_words {H : Hp} {Q : VK} {r : Addr} {xs : List V} {nss : List (List Int)} {c : Int} {σ : L2.St} (h1 : σ[1]? = some (some (V.ref r))) (h3 : σ.length = 4) (hr : H r = some (.lst xs)) (hT : Tups K H xs nss) (few : nss.length ≤ 128) (hw : ∀ x ∈ nss, x ≠ [] ∧ x.length ≤ 16)
    (q : ∀ H' D ys, Same H H' → H D = none → H' D = some (.lst ys) → Tups K H' ys (nss.map fun x => x ++ [c]) → Q (.ref D) H') : tLc (iList K (tVar 1)) (gName 3) tYes (tOp (rCatT K) (tVar 3) (tTup (tCons (tC (.int c)) tNil))) [3] σ H Q := by
  refine ⟨_, h1, r, rfl, ⟨_, .inl (.inl hr)⟩, fun D nD => ?_⟩
  have lx := tups_len hT
  refine lc_list (xs := xs) (fun i H' => Same H H' ∧ ∃ ys, H' D = some (.lst ys) ∧ Tups K H' ys ((nss.take i).map fun x => x ++ [c])) ⟨same_upd nD, [], upd_same, .nil⟩ (fun i H' _ z => z.1.seq (.inl (.inl hr))) (fun i x H' hx z => ?_) fun H2 z => ?_
  · obtain ⟨sm, ys, hD, hZ⟩ := z
    have hi : i < nss.length := by rw [← lx]; exact (List.getElem?_eq_some_iff.mp hx).1
    have hrow : nss[i]? = some nss[i] := List.getElem?_eq_getElem hi
    obtain ⟨w1, w2⟩ := hw nss[i] (List.getElem_mem hi)
    generalize nss[i] = row at hrow w1 w2
    obtain ⟨tp, hx2, hq⟩ := tups_get hT hrow
    rw [hx] at hx2
    obtain rfl : x = V.ref tp := Option.some.inj hx2
    refine ⟨?_, ?_⟩
    · show ((σ.set 3 none).set 3 (some (V.ref tp))).set 3 none = σ.set 3 none
      rw [List.set_set, List.set_set]
    refine ⟨V.ref tp, ?_, ?_⟩
    · have l4 : 3 < (wipe σ [3]).length := by rw [wipe_length]; omega
      exact List.getElem?_set_self l4
    refine ⟨by show 1 ≤ sizeLine; decide, fun a na => ?_⟩
    have sa := same_upd (o := .tup [V.int c]) na
    refine ⟨tp, a, Is row, [V.int c], rfl, rfl, Same.tupAt (sm.trans sa) hq, .inl (.inl upd_same), ?_, ?_, fun e => ?_, fun _ p np => ?_⟩
    · intro e
      exact w1 (List.map_eq_nil_iff.mp e)
    · rw [is_len, sizeLine_eq]
      show row.length + 1 ≤ _
      omega
    · cases e
    · have sp := same_upd (o := .tup (Is row ++ [V.int c])) np
      have nDa : D ≠ a := ne_of_none hD na
      have hDa : (upd H' a (.tup [V.int c])) D = some (.lst ys) := by rw [upd_ne nDa]; exact hD
      have nDp : D ≠ p := ne_of_none hDa np
      have hDp : (upd (upd H' a (.tup [V.int c])) p (.tup (Is row ++ [V.int c]))) D = some (.lst ys) := by rw [upd_ne nDp]; exact hDa
      refine ⟨ys, hDp, ?_, same_at (sm.trans (sa.trans sp)) nD, _, upd_same, ?_⟩
      · rw [tups_len hZ, List.length_map, List.length_take]
        exact small1000 (by omega)
      · rw [take_more hrow, List.map_append]
        refine tups_app (SameX.tups hDp SameX.upd (Same.tups (sa.trans sp) hZ)) (tups_one (.inl (.inl ?_)))
        rw [upd_ne (Ne.symm nDp), upd_same]
        show some (HO.tup (Is row ++ [V.int c])) = some (HO.tup (List.map V.int (row ++ [c])))
        rw [List.map_append]
        rfl
  · obtain ⟨sm, ys, hD, hZ⟩ := z
    rw [lx, List.take_length] at hZ
    exact q H2 D ys sm nD hD hZ
theorem glue {ta tb : TE} {i : Nat} {v : V} {σ : L2.St} {H : Hp} {D : Ends} {g : TG} (h : ta (σ.set i (some v)) H fun x H1 => tb (σ.set i (some v)) H1 fun y H2 => rCat x y H2 fun z H3 => g z (σ.set i (some v)) H3 D.nx) :
    gName i v σ H fun σ2 H2 => tAsg (tOp rCat ta tb) g D σ2 H2 := h
theorem ok_words {f : Addr} {fd : FuncData} {k : Nat} (B : Bn mg) (F : Fun K "_law_words" "_law_words" sWords f fd) : FnOk P w K mg base CX0 (k + 1) f fd ["_law_places"] (spWords K) := by
  refine F.ok scWords (fun vs H Q E h => ?_) (fun cdv A outer s H vs Q E hr h => ?_)
  · obtain ⟨p, rfl, _⟩ := h
    rfl
  obtain ⟨p, rfl, p1, p2, q⟩ := h
  have nd := scWords.nd
  refine ⟨_, pss_cons (ps_set (i := 1) nd rfl (.inl rfl) (pe_lst (pa_cons (pe_tup (pa_cons pe_int pa_nil)) pa_nil)))
    (pss_cons (ps_for PassesOwn.never rfl (pi_range1 (by rfl) B.range (pa_cons (pe_op op_sub (pv 0) pe_int) pa_nil)) (pg_name (i := 2) nd rfl (.inl rfl))
      (pss_one (ps_set (i := 1) nd rfl (.inl rfl) (pe_op op_cat
        (pe_lc (own := [("_law_word", 3)]) (g := gName 3) (tt := tYes) rfl nd (pi_list (pv 1)) (blkOk_by (N := ["_law_places", "_law_found", "_law_place", "_law_word"]) (sc := defScope sWords) (by decide +kernel)) (fun _ _ _ _ _ => pg_name (i := 3) nd rfl (Or.inl rfl)) (fun _ _ _ _ _ => pts_nil)
          (fun _ _ _ _ _ => pe_op (op_catK (K := K) rfl) (pv 3) (pe_tup (pa_cons pe_int pa_nil))))
        (pe_lc (own := [("_law_word", 3)]) (g := gName 3) (tt := tYes) rfl nd (pi_list (pv 1)) (blkOk_by (N := ["_law_places", "_law_found", "_law_place", "_law_word"]) (sc := defScope sWords) (by decide +kernel)) (fun _ _ _ _ _ => pg_name (i := 3) nd rfl (Or.inl rfl)) (fun _ _ _ _ _ => pts_nil)
          (fun _ _ _ _ _ => pe_op (op_catK (K := K) rfl) (pv 3) (pe_tup (pa_cons pe_int pa_nil))))))))
    (pss_one (ps_ret (pv 1)))), ?_⟩
  refine ⟨by show 1 ≤ sizeLine; decide, fun a na => ⟨by show 1 ≤ sizeLine; decide, fun r0 nr0 => ?_⟩⟩
  have nra : a ≠ r0 := fun e => by rw [e, upd_same] at nr0; cases nr0
  have nr0H : H r0 = none := by rw [upd_ne (Ne.symm nra)] at nr0; exact nr0
  refine ⟨_, rfl, _, _, rfl, rfl, p - 1, rfl, by omega, by omega, for_range (lo := 0) (n := (p - 1).toNat) (fun i σ H' => ∃ y2 y3 r xs, σ = [some (.int p), some (.ref r), y2, y3] ∧ Same H H' ∧ H r = none ∧ H' r = some (.lst xs) ∧ Tups K H' xs (Nst.wordsK i))
    ⟨_, _, r0, _, rfl, (same_upd na).trans (same_upd nr0), nr0H, upd_same, ?_⟩ (fun i σ H' hi z => ?_) fun σ H' z => ?_⟩
  · refine tups_one (.inl (.inl ?_))
    rw [upd_ne nra, upd_same]
    rfl
  · obtain ⟨y2, y3, r, xs, rfl, sm, nrH, hr', hT⟩ := z
    have few : (Nst.wordsK i).length ≤ 128 := by
      rw [words_len]
      exact Nat.le_trans (Nat.pow_le_pow_right (by decide) (by omega : i ≤ 7)) (by decide)
    have ww : ∀ x ∈ Nst.wordsK i, x ≠ [] ∧ x.length ≤ 16 := fun x hx => by
      have e := words_word i x hx
      exact ⟨fun z => (by rw [z] at e; cases e), by omega⟩
    refine glue ?_
    refine more_words (K := K) (c := 0) (σ := [some (.int p), some (.ref r), some (.int (0 + i)), y3]) rfl rfl hr' hT few ww fun H1 D1 ys1 s1 n1 e1 T1 => ?_
    refine more_words (K := K) (c := 1) (σ := [some (.int p), some (.ref r), some (.int (0 + i)), y3]) rfl rfl (s1 _ _ hr') (Same.tups s1 hT) few ww fun H2 D2 ys2 s2 n2 e2 T2 => ?_
    refine ⟨D1, D2, ys1, ys2, rfl, rfl, s2 _ _ e1, e2, ?_, fun p3 np3 => ?_⟩
    · rw [tups_len T1, tups_len T2, List.length_map, List.length_map, sizeLine_eq]
      omega
    · have s3 := same_upd (o := .lst (ys1 ++ ys2)) np3
      exact ⟨_, _, p3, _, rfl, sm.trans (s1.trans (s2.trans s3)), Same.free (sm.trans (s1.trans s2)) np3, upd_same, tups_app (Same.tups (s2.trans s3) T1) (Same.tups s3 T2)⟩
  · obtain ⟨y2, y3, r, xs, rfl, sm, nrH, hr', hT⟩ := z
    exact ⟨_, rfl, q H' r xs sm nrH hr' hT⟩
end
end Kq

namespace Nst
theorem raw_len : ∀ (j : Nat) (w : List Int), (rawFrom j w).length = w.length
  | _, [] => rfl
  | j, x :: r => congrArg Nat.succ (raw_len (j + 1) r)
theorem raw_get : ∀ (w : List Int) (j i : Nat) (x : Int), w[i]? = some x → (rawFrom j w)[i]? = some (x * ((j + i : Nat) : Int) + (w.drop (i + 1)).sum)
  | [], _, _, _, h => by simp at h
  | x :: r, j, 0, y, h => by
    have e : x = y := Option.some.inj h
    subst e
    rfl
  | x :: r, j, i + 1, y, h => by
    have e := raw_get r (j + 1) i y h
    have e2 : j + 1 + i = j + (i + 1) := by omega
    rw [e2] at e
    exact e
end Nst
namespace Kq
open PySem PySem.Spec PyProof.Rows L2 KR
theorem cut_from (xs : List V) (k : Nat) : cutV xs (some ((k : Nat) : Int)) none = xs.drop k := by
  unfold cutV
  rw [HT.sIx_nat, HT.sIx_none]
  by_cases c : k ≤ xs.length
  · rw [Nat.min_eq_left c]
    exact List.take_of_length_le (by rw [List.length_drop]; exact Nat.le_refl _)
  · have e1 : min k xs.length = xs.length := by omega
    rw [e1, List.drop_eq_nil_of_le (Nat.le_refl _), List.drop_eq_nil_of_le (by omega : xs.length ≤ k)]
    exact List.take_nil
section
variable {P : Program} {w : World} {K : PySem.W.Frag} {mg : Str → Option Value} {base : Heap}
/-! ### _law_row_of -/
def spRowOf (K : PySem.W.Frag) : Sp := fun vs H Q _ => ∃ (a : Addr) (ns : List Int), vs = [.ref a] ∧ SqT K H a (Is ns) ∧ 1 ≤ ns.length ∧ ns.length ≤ 16 ∧ ∀ H' r, Same H H' → H r = none → H' r = some (.tup (Is (Nst.rowOf ns))) → Q (.ref r) H'
theorem scRowOf : FnScope ["_law_word", "_law_rows", "_law_place", "_law_entry"] ["_law_word"] (defScope sRowOf) := ⟨rfl, rfl, rfl, by decide +kernel, rfl, by decide +kernel, by decide +kernel⟩
theorem ok_rowOf {f : Addr} {fd : FuncData} {k : Nat} (B : Bn mg) (F : Fun K "_law_row_of" "_law_row_of" sRowOf f fd) : FnOk P w K mg base CX0 (k + 1) f fd ["_law_word"] (spRowOf K) := by
  refine F.ok scRowOf (fun vs H Q E h => ?_) (fun cdv A outer s H vs Q E hr h => ?_)
  · obtain ⟨a, ns, rfl, _⟩ := h
    rfl
  obtain ⟨a, ns, rfl, hS, l1, l2, q⟩ := h
  have nd := scRowOf.nd
  refine ⟨_, pss_cons (ps_set (i := 1) nd rfl (.inl rfl) (pe_lst pa_nil))
    (pss_cons (ps_for PassesOwn.never rfl (pi_enumT (by rfl) B.enum (pa_cons (pv 0) pa_nil)) (pg_tup rfl (pgs_cons (pg_name (i := 2) nd rfl (.inl rfl)) (pgs_cons (pg_name (i := 3) nd rfl (.inl rfl)) pgs_nil)))
      (pss_one (ps_expr (pe_bm PySem.F.plainAttrs_list PySem.F.slot_list_append PySem.F.type_list_append mt_append (pv 1) (pa_cons
        (pe_op op_add (pe_op op_mul (pv 3) (pv 2)) (pe_callB (cr_sumT rfl) (by rfl) B.sum (by decide +kernel) (pa_cons (pe_slice sl_tupA (pv 0) (po_some (pe_op op_add (pv 2) pe_int)) po_none) pa_nil))) pa_nil)))))
    (pss_one (ps_ret (pe_callTy call_tuple_of (by rfl) B.tup (by decide +kernel) (pa_cons (pe_callBK (cr_sortedRev (b := true)) (by rfl) B.sorted PyProof.Rows.boot_sorted (pa_cons (pv 1) pa_nil) (pk_cons pe_bl pk_nil)) pa_nil))))), ?_⟩
  refine ⟨Nat.zero_le _, fun R nR => ?_⟩
  refine ⟨_, rfl, a, Is ns, rfl, Same.tupAt (same_upd nR) hS, for_it (walk_enumT (xs := Is ns)) (fun i σ H' => ∃ y2 y3, σ = [some (.ref a), some (.ref R), y2, y3] ∧ Same H H' ∧ H' R = some (.lst (Is ((Nst.rawFrom 0 ns).take i)))) ⟨_, _, rfl, same_upd nR, upd_same⟩
    (fun i σ H' _ p => ?_) (fun i x σ H1 H2 hi p y => ?_) (fun σ H' p => ?_)⟩
  · obtain ⟨_, _, _, sm, _⟩ := p
    exact Same.tupAt sm hS
  · obtain ⟨y2, y3, rfl, sm, hR⟩ := p
    obtain ⟨T, x1, x2, rfl, nT, rfl, hx1, hx2⟩ := y
    obtain rfl : V.int (i : Nat) = x1 := Option.some.inj hx1
    obtain ⟨e, he, rfl⟩ := is_get hx2
    have li : i < ns.length := (List.getElem?_eq_some_iff.mp he).1
    have sm2 : Same H (upd H1 T (.tup [.int (i : Nat), .int e])) := sm.trans (same_upd nT)
    have nRT : R ≠ T := ne_of_none hR nT
    have hR2 : (upd H1 T (.tup [.int (i : Nat), .int e])) R = some (.lst (Is ((Nst.rawFrom 0 ns).take i))) := by rw [upd_ne nRT]; exact hR
    refine ⟨T, _, rfl, .inl (.inl upd_same), rfl, _, _, rfl, _, _, rfl, rfl, ?_⟩
    refine ⟨_, rfl, .inl ⟨rfl, _, SqL.of hR2⟩, _, rfl, _, rfl, _, _, rfl, rfl, .inr ⟨by omega, by omega⟩, _, rfl, _, rfl, _, _, rfl, rfl, _, rfl, a, Is ns, rfl, Same.tupAt sm2 hS, fun c => ?_, fun c p np => ?_⟩
    · exfalso
      have c1 := c.1
      have e1 : (i : Int) + 1 = ((i + 1 : Nat) : Int) := by omega
      rw [e1, HT.sIx_nat, is_len] at c1
      omega
    · have ec : cutV (Is ns) (some ((i : Int) + 1)) none = Is (ns.drop (i + 1)) := by
        have e1 : (i : Int) + 1 = ((i + 1 : Nat) : Int) := by omega
        rw [e1, cut_from]
        exact List.map_drop.symm
      rw [ec]
      have sp := same_upd (o := .tup (Is (ns.drop (i + 1)))) np
      have nRp : R ≠ p := ne_of_none hR2 np
      have hR3 : (upd (upd H1 T (.tup [.int (i : Nat), .int e])) p (.tup (Is (ns.drop (i + 1))))) R = some (.lst (Is ((Nst.rawFrom 0 ns).take i))) := by rw [upd_ne nRp]; exact hR2
      refine ⟨p, ns.drop (i + 1), rfl, .inl (.inl upd_same), _, _, rfl, rfl, R, _, _, rfl, rfl, hR3, ?_, ?_⟩
      · rw [is_len, List.length_take]
        exact small1000 (by omega)
      · refine ⟨_, _, rfl, fun b o z => ?_, ?_⟩
        · rw [upd_ne (ne_of_none z nR)]
          exact sp _ _ (sm2 _ _ z)
        · have g := Nst.raw_get ns 0 i e he
          rw [Nat.zero_add] at g
          rw [upd_same, take_more g]
          show some (HO.lst (Is _ ++ [V.int (e * (i : Int) + (ns.drop (i + 1)).sum)])) = some (HO.lst (List.map V.int (_ ++ [e * (i : Int) + (ns.drop (i + 1)).sum])))
          rw [List.map_append]
          rfl
  · obtain ⟨y2, y3, rfl, sm, hR⟩ := p
    rw [is_len, ← Nst.raw_len 0 ns, List.take_length] at hR
    refine ⟨_, rfl, R, _, rfl, rfl, .inl (.inl hR), fun ns' p pm od np => ?_⟩
    have en : ns' = Nst.rowOf ns := Nst.isD_of pm od
    refine ⟨p, _, rfl, .inl ⟨.inl (.inl upd_same), fun l nl => ?_⟩⟩
    have s1 := sm.trans ((same_upd (o := .lst (Is ns')) np).trans (same_upd (o := .tup (Is ns')) nl))
    have nlH : H l = none := Same.free (sm.trans (same_upd np)) nl
    exact q _ l s1 nlH (by rw [upd_same, en])
end
end Kq

namespace Nst
/-! ### the decided facts, said of each length -/
theorem all_k {p : Nat → Bool} (h : ((List.range 8).all p) = true) {k : Nat} (hk : k < 8) : p k = true := List.all_eq_true.mp h k (List.mem_range.mpr hk)
/-- no two alike -/
def apart : List Int → Bool
  | [] => true
  | x :: r => r.all (fun y => !decide (x = y)) && apart r
theorem apart_nodup : ∀ {l : List Int}, apart l = true → l.Nodup
  | [], _ => List.nodup_nil
  | x :: r, h => by
    unfold apart at h
    rw [Bool.and_eq_true, List.all_eq_true] at h
    refine List.nodup_cons.mpr ⟨fun hm => ?_, apart_nodup h.2⟩
    have q := h.1 x hm
    simp at q
theorem apart_all : ((List.range 8).all fun k => apart ((rowsK k).map KS.hashT)) = true := by decide +kernel
theorem far_all : ((List.range 8).all fun k => (nin (k + 1) 1000000000000000000000000000000) == []) = true := by decide +kernel
section
variable {k : Nat}
theorem hash_nd (hk : k < 8) : ((rowsK k).map KS.hashT).Nodup := apart_nodup (all_k apart_all hk)
theorem far_none (hk : k < 8) : nin (k + 1) 1000000000000000000000000000000 = [] := beq_iff_eq.mp (all_k far_all hk)
theorem rows_num (k : Nat) : ∀ j : Nat, (wordsK j).length = 2 ^ j
  | 0 => rfl
  | j + 1 => by
    show ((wordsK j).map _ ++ (wordsK j).map _).length = _
    rw [List.length_append, List.length_map, List.length_map, rows_num k j, Nat.pow_succ]
    omega
theorem rows_few (hk : k < 8) : (rowsK k).length ≤ 128 := by
  have e : (rowsK k).length = 2 ^ k := by
    unfold rowsK
    rw [(isA_perm _).length_eq, List.length_map, rows_num k k]
  rw [e]
  exact Nat.le_trans (Nat.pow_le_pow_right (by decide) (by omega : k ≤ 7)) (by decide)
theorem rows_pos (k : Nat) : 0 < (rowsK k).length := by
  have e : (rowsK k).length = 2 ^ k := by
    unfold rowsK
    rw [(isA_perm _).length_eq, List.length_map, rows_num k k]
  rw [e]
  exact Nat.two_pow_pos k
/-- the rows of a total -/
def ofTotal (k t : Nat) : List (List Int) := (rowsK k).filter fun l => l.sum == (t : Int)
theorem told (hk : k < 8) {t : Nat} (ht : t < (k + 1) * k + 3) : isA (nin (k + 1) (t : Int)) = ofTotal k t := by
  have q := all_k chkC_all hk
  unfold chkC at q
  exact beq_iff_eq.mp (List.all_eq_true.mp q t (List.mem_range.mpr ht))
def count (k n : Nat) : Nat := ((List.range n).map fun t => (ofTotal k t).length).sum
theorem count_succ (k n : Nat) : count k (n + 1) = count k n + (ofTotal k n).length := by
  unfold count
  rw [List.range_succ, List.map_append, List.sum_append]
  simp
theorem count_all (hk : k < 8) : count k ((k + 1) * k + 3) = (rowsK k).length := beq_iff_eq.mp (all_k chkD_all hk)
structure Listed (k : Nat) (l : List Int) : Prop where
  len : l.length = k + 1
  bd : ∀ x ∈ l, 0 ≤ x ∧ x ≤ ((k + 1 : Nat) : Int)
  fall : isD l = l
  nest : nestedB l = true
theorem listed (hk : k < 8) {l : List Int} (hl : l ∈ rowsK k) : Listed k l := by
  have q := all_k chkB_all hk
  unfold chkB at q
  have z := List.all_eq_true.mp q l hl
  simp only [Bool.and_eq_true, beq_iff_eq, List.all_eq_true, decide_eq_true_eq] at z
  obtain ⟨⟨⟨z1, z2⟩, z3⟩, z4⟩ := z
  exact ⟨z1, z2, z3, z4⟩
theorem toN_inj : ∀ {l m : List Int}, (∀ x ∈ l, 0 ≤ x) → (∀ x ∈ m, 0 ≤ x) → toN l = toN m → l = m := fun {l m} h1 h2 e => by
  rw [← toI_toN h1, ← toI_toN h2, e]
/-- a drawn row is nested exactly if its falling row is listed -/
theorem drawn (hk : k < 8) {l : List Int} (hl : l.length = k + 1) (hb : ∀ x ∈ l, 0 ≤ x ∧ x ≤ ((k + 1 : Nat) : Int)) : nestedB (isD l) = decide (isD l ∈ rowsK k) := by
  have pm := isD_perm l
  have d1 : (isD l).length = k + 1 := by rw [pm.length_eq]; exact hl
  have d2 : ∀ x ∈ isD l, 0 ≤ x ∧ x ≤ ((k + 1 : Nat) : Int) := fun x hx => hb x (pm.mem_iff.mp hx)
  have d3 := isD_sorted l
  generalize isD l = m at d1 d2 d3
  by_cases c : m ∈ rowsK k
  · rw [decide_eq_true c]
    exact (listed hk c).nest
  · rw [decide_eq_false c]
    have nn : ∀ x ∈ m, 0 ≤ x := fun x hx => (d2 x hx).1
    cases e : nestedB m with
    | false => rfl
    | true =>
      exfalso
      have em : toI (toN m) = m := toI_toN nn
      have b1 : ∀ x ∈ toN m, x ≤ k + 1 := fun x hx => by
        obtain ⟨y, hy, ey⟩ := List.mem_map.mp hx
        have q := d2 y hy
        omega
      have b2 : (toN m).Pairwise (· ≥ ·) := by
        refine List.pairwise_map.mpr (d3.imp_of_mem fun {x y} hx hy h => ?_)
        have q1 := nn x hx
        have q2 := nn y hy
        show x.toNat ≥ y.toNat
        have h' : y ≤ x := h
        omega
      have b3 : (toN m).length = k + 1 := by
        unfold toN
        rw [List.length_map]
        exact d1
      have mem := desc_mem (toN m) (k + 1) b1 b2
      rw [b3] at mem
      have q := all_k chkA_all hk
      unfold chkA at q
      have z := List.all_eq_true.mp q (toN m) mem
      have en : nestedN (toN m) 0 (toN m) = true := by
        rw [← nestedN_eq, em]
        exact e
      rw [en, Bool.not_true, Bool.false_or] at z
      unfold memN at z
      obtain ⟨r, hr, er⟩ := List.any_eq_true.mp z
      obtain ⟨r0, hr0, e0⟩ := List.mem_map.mp hr
      have er' : r = toN m := beq_iff_eq.mp er
      have e1 : r0 = m := toN_inj (fun x hx => ((listed hk hr0).bd x hx).1) nn (e0.trans er')
      exact c (e1 ▸ hr0)
end
end Nst

namespace Kq
open PySem PySem.Spec PyProof.Rows L2 KR
/-! ### rows as data -/
theorem ints_eqv : ∀ a b : List Int, PyData.eqvAll (a.map .int) (b.map .int) = decide (a = b)
  | [], [] => by simp [PyData.eqvAll]
  | [], _ :: _ => by simp [PyData.eqvAll]
  | _ :: _, [] => by simp [PyData.eqvAll]
  | x :: a, y :: b => by
    have ih := ints_eqv a b
    show PyData.eqvAll (.int x :: a.map .int) (.int y :: b.map .int) = _
    rw [PyData.eqvAll, ih]
    by_cases c : x = y <;> by_cases d : a = b <;> simp [PyData.eqv, c, d]
theorem encT_eqv (a b : List Int) : PyData.eqv (encT a) (encT b) = decide (a = b) := by
  unfold encT
  rw [PyData.eqv]
  exact ints_eqv a b
theorem ints_lay : ∀ a : List Int, PyData.canLayAll0 (a.map .int) = true
  | [] => by simp [PyData.canLayAll0]
  | x :: a => by
    show PyData.canLayAll0 (.int x :: a.map .int) = true
    simp [PyData.canLayAll0, PyData.canLay0, ints_lay a]
theorem encT_lay (a : List Int) : (encT a).canLay0 = true := by
  unfold encT
  simp only [PyData.canLay0]
  exact ints_lay a
theorem encTs_lay : ∀ l : List (List Int), PyData.canLayAll0 (l.map encT) = true
  | [] => by simp [PyData.canLayAll0]
  | a :: l => by simp [PyData.canLayAll0, encT_lay a, encTs_lay l]
theorem encTs_depth : ∀ l : List (List Int), PyData.depthAll (l.map encT) ≤ 1
  | [] => by simp [PyData.depthAll]
  | a :: l => by
    have h1 := encTs_depth l
    have h2 := encT_depth a
    simp only [List.map_cons, PyData.depthAll]
    omega
theorem encT_shaped (a : List Int) : SeqAt.shaped (encT a) = true := by
  have h := encT_depth a
  show ((encT a).canLay0 && decide ((encT a).depth ≤ 64)) = true
  rw [Bool.and_eq_true]
  exact ⟨encT_lay a, decide_eq_true (by omega)⟩
theorem tup_shaped (l : List (List Int)) : SeqAt.shaped (.tuple (l.map encT)) = true := by
  have h := encTs_depth l
  have h2 : PyData.depth (.tuple (l.map encT)) ≤ 64 := by
    simp only [PyData.depth]
    omega
  show (PyData.canLay0 (.tuple (l.map encT)) && decide (PyData.depth (.tuple (l.map encT)) ≤ 64)) = true
  rw [Bool.and_eq_true]
  exact ⟨by simp only [PyData.canLay0]; exact encTs_lay l, decide_eq_true h2⟩
theorem list_shaped (l : List (List Int)) : SeqAt.shaped (.list (l.map encT)) = true := by
  have h := encTs_depth l
  have h2 : PyData.depth (.list (l.map encT)) ≤ 64 := by
    simp only [PyData.depth]
    omega
  show (PyData.canLay0 (.list (l.map encT)) && decide (PyData.depth (.list (l.map encT)) ≤ 64)) = true
  rw [Bool.and_eq_true]
  exact ⟨by simp only [PyData.canLay0]; exact encTs_lay l, decide_eq_true h2⟩
theorem tup_same (l : List (List Int)) : PyData.eqv (.tuple (l.map encT)) (.tuple (l.map encT)) = true := SeqAt.eqv_refl _ (by simp only [PyData.canLay0]; exact encTs_lay l)
theorem mem_rows (a : List Int) : ∀ l : List (List Int), ((l.map encT).any fun z => PyData.eqv z (encT a)) = decide (a ∈ l)
  | [] => by simp
  | b :: l => by
    have ih := mem_rows a l
    rw [List.map_cons, List.any_cons, ih, encT_eqv]
    by_cases c : b = a
    · subst c; simp
    · have c' : ¬ a = b := fun e => c e.symm
      simp [c, c']
section
variable {K : PySem.W.Frag} {H : Hp}
theorem ints_dp : ∀ ns : List Int, DpAll K H (Is ns) (ns.map .int)
  | [] => .nil
  | n :: ns => .cons (.int n) (ints_dp ns)
theorem row_dp {t : Addr} {ns : List Int} (h : SqT K H t (Is ns)) : Dp K H (.ref t) (encT ns) := .tup h (ints_dp ns)
theorem rows_dp : ∀ {xs : List V} {nss : List (List Int)}, Tups K H xs nss → DpAll K H xs (nss.map encT)
  | _, _, .nil => .nil
  | _, _, .cons ⟨t, e, h⟩ r => by
    subst e
    exact .cons (row_dp h) (rows_dp r)
theorem tups_mem : ∀ {xs : List V} {nss : List (List Int)} {u : V}, Tups K H xs nss → u ∈ xs → ∃ t ns, ns ∈ nss ∧ u = V.ref t ∧ SqT K H t (Is ns)
  | _, _, u, .nil, hu => nomatch hu
  | _, _, u, .cons ⟨t, e, h⟩ r, hu => by
    rcases List.mem_cons.mp hu with z | hu
    · exact ⟨t, _, List.mem_cons_self, z.trans e, h⟩
    · obtain ⟨t2, ns2, h1, h2⟩ := tups_mem r hu
      exact ⟨t2, ns2, List.mem_cons_of_mem _ h1, h2⟩
end
theorem row_of {k : Nat} (hk : k < 8) {ns : List Int} (hl : ns.length = k + 1) (hb : ∀ x ∈ ns, 0 ≤ x ∧ x ≤ ((k + 1 : Nat) : Int)) : Row ns :=
  ⟨by omega, by omega, fun x hx => ⟨(hb x hx).1, by have q := (hb x hx).2; show x ≤ 999999999999999999999999999999; omega⟩⟩
section
variable {P : Program} {w : World} {K : PySem.W.Frag} {mg : Str → Option Value} {base : Heap}
/-! ### _law_right -/
def spRight : Sp := fun vs H Q _ => ∃ (v : Addr) (x y z : Int), vs = [.ref v] ∧ H v = some (Vt x y z) ∧ ∀ H', SameX v H H' → Q (.bl true) H'
abbrev nRight : List Str := ["_law_vat_here", "_law_places", "_law_rows", "_law_many", "_law_total", "_law_told", "_law_row", "_law_turn", "_law_word", "_law_place"]
theorem scRight : FnScope nRight ["_law_vat_here"] (defScope sRight) := ⟨rfl, rfl, rfl, by decide +kernel, rfl, by decide +kernel, by decide +kernel⟩
/-- the defs that the law calls -/
structure Ds (P : Program) (w : World) (K : PySem.W.Frag) (mg : Str → Option Value) (base : Heap) : Prop where
  dip : ∃ f fd, Df P w K mg base "_law_dip" ["_law_vat_here", "_law_size"] 1 spDip f fd
  words : ∃ f fd, Df P w K mg base "_law_words" ["_law_places"] 1 (spWords K) f fd
  rowOf : ∃ f fd, Df P w K mg base "_law_row_of" ["_law_word"] 1 (spRowOf K) f fd
  rows : ∃ f fd, Df P w K mg base "nested_rows" ["places", "total"] 17 (spRows K) f fd
  nested : ∃ f fd, Df P w K mg base "is_nested_row" ["degrees"] 6 (spNestedRow K) f fd
  mixed : ∃ f fd, Df P w K mg base "_law_mixed" ["_law_vat_here", "_law_items"] 2 (spMixed K) f fd
  pick : ∃ f fd, Df P w K mg base "_law_pick" ["_law_vat_here", "_law_items"] 2 (spPick K) f fd
theorem ok_right {f : Addr} {fd : FuncData} (B : Bn mg) (F : Fun K "_law_right" "_law_right" sRight f fd) (D7 : Ds P w K mg base) : FnOk P w K mg base CX0 18 f fd ["_law_vat_here"] spRight := by
  obtain ⟨_, _, Gd⟩ := D7.dip
  obtain ⟨_, _, Gw⟩ := D7.words
  obtain ⟨_, _, Go⟩ := D7.rowOf
  obtain ⟨_, _, Gr⟩ := D7.rows
  obtain ⟨_, _, Gn⟩ := D7.nested
  obtain ⟨_, _, Gm⟩ := D7.mixed
  obtain ⟨_, _, Gp⟩ := D7.pick
  refine F.ok scRight (fun vs H Q E h => ?_) (fun cdv A outer s H vs Q E hr h => ?_)
  · obtain ⟨v, x, y, z, rfl, _⟩ := h
    rfl
  obtain ⟨v, x, y, z, rfl, hv, q⟩ := h
  have nd := scRight.nd
  refine ⟨_, pss_cons (ps_set (i := 1) nd rfl (.inr rfl) (pe_op op_add pe_int (pe_df Gd hr (pa_cons (pv 0) (pa_cons pe_int pa_nil)))))
    (pss_cons (ps_set (i := 2) nd rfl (.inl rfl) (pe_callB (cr_sortedTs (room4 hr)) (by rfl) B.sorted PyProof.Rows.boot_sorted (pa_cons
        (pe_lc (own := [("_law_word", 8)]) (g := gName 8) (tt := tYes) rfl nd (pi_list (pe_df Gw hr (pa_cons (pv 1) pa_nil))) (blkOk_by (N := nRight) (sc := defScope sRight) (by decide +kernel)) (fun _ _ _ _ _ => pg_name (i := 8) nd rfl (Or.inl rfl)) (fun _ _ _ _ _ => pts_nil)
          (fun _ _ _ _ _ => pe_df Go hr (pa_cons (pv 8) pa_nil))) pa_nil)))
    (pss_cons (ps_if (pt_cmpR op_ne (KS.pe_lenSetT rfl (room4 hr) (by rfl) B.len (by rfl) B.set (pv 2)) (pe_callB call_len_seq (by rfl) B.len PySem.boot_len (pa_cons (pv 2) pa_nil)) (nomark _)) (pss_one (ps_ret pe_bl)) pss_nil)
    (pss_cons (ps_set (i := 3) nd rfl (.inl rfl) pe_int)
    (pss_cons (ps_for PassesOwn.never rfl (pi_range1 (by rfl) B.range (pa_cons (pe_op op_add (pe_op op_mul (pv 1) (pe_op op_sub (pv 1) pe_int)) pe_int) pa_nil)) (pg_name (i := 4) nd rfl (.inr rfl))
      (pss_cons (ps_set (i := 5) nd rfl (.inl rfl) (pe_df Gr hr (pa_cons (pv 1) (pa_cons (pv 4) pa_nil))))
      (pss_cons (ps_if (pt_cmpR (op_neD (room64 hr)) (pv 5) (pe_callTy call_tuple_of (by rfl) B.tup (by decide +kernel) (pa_cons
          (pe_lc (own := [("_law_row", 6)]) (g := gName 6) rfl nd (pi_list (pv 2)) (blkOk_by (N := nRight) (sc := defScope sRight) (by decide +kernel)) (fun _ _ _ _ _ => pg_name (i := 6) nd rfl (Or.inl rfl))
            (fun _ _ _ _ _ => pts_one (pt_cmpR op_eq (pe_callB (cr_sumK (K := K) rfl rfl) (by rfl) B.sum (by decide +kernel) (pa_cons (pv 6) pa_nil)) (pv 4) (nomark _))) (fun _ _ _ _ _ => pv 6)) pa_nil)) (nomark _)) (pss_one (ps_ret pe_bl)) pss_nil)
      (pss_one (ps_set (i := 3) nd rfl (.inl rfl) (pe_op op_add (pv 3) (pe_callB call_len_seq (by rfl) B.len PySem.boot_len (pa_cons (pv 5) pa_nil))))))))
    (pss_cons (ps_if (PW.pt (pw_or (pt_cmpR op_ne (pv 3) (pe_callB call_len_seq (by rfl) B.len PySem.boot_len (pa_cons (pv 2) pa_nil)) (nomark _))
        (pw_or1 (pt_cmpR (op_neD (room64 hr)) (pe_df Gr hr (pa_cons (pv 1) (pa_cons (pe_op op_pow pe_int pe_int) pa_nil))) (pe_tup pa_nil) (nomark _))))) (pss_one (ps_ret pe_bl)) pss_nil)
    (pss_cons (ps_for PassesOwn.never rfl (pi_range1 (by rfl) B.range (pa_cons pe_int pa_nil)) (pg_name (i := 7) nd rfl (.inl rfl))
      (pss_cons (ps_set (i := 6) nd rfl (.inl rfl) (pe_callTy call_tuple_of (by rfl) B.tup (by decide +kernel) (pa_cons
          (pe_lc (own := [("_law_place", 9)]) (g := gName 9) (tt := tYes) rfl nd (pi_range1 (by rfl) B.range (pa_cons (pv 1) pa_nil)) (blkOk_by (N := nRight) (sc := defScope sRight) (by decide +kernel)) (fun _ _ _ _ _ => pg_name (i := 9) nd rfl (Or.inl rfl)) (fun _ _ _ _ _ => pts_nil)
            (fun _ _ _ _ _ => pe_df Gd hr (pa_cons (pv 0) (pa_cons (pe_op op_add (pv 1) pe_int) pa_nil)))) pa_nil)))
      (pss_one (ps_if (pt_cmpR op_ne (pe_df Gn hr (pa_cons (pv 6) pa_nil)) (pe_cmpR (op_inD (room65 hr)) (pe_callTy call_tuple_of (by rfl) B.tup (by decide +kernel) (pa_cons (pe_callBK cr_sortedTR (by rfl) B.sorted PyProof.Rows.boot_sorted (pa_cons (pv 6) pa_nil) (pk_cons pe_bl pk_nil)) pa_nil)) (pv 2) (by with_unfolding_all rfl)) (nomark _))
        (pss_one (ps_ret pe_bl)) pss_nil))))
    (pss_one (ps_ret (pe_df Gn hr (pa_cons (pe_callTy call_tuple_of (by rfl) B.tup (by decide +kernel) (pa_cons (pe_df Gm hr (pa_cons (pv 0) (pa_cons (pe_df Gp hr (pa_cons (pv 0) (pa_cons (pv 2) pa_nil))) pa_nil))) pa_nil)) pa_nil)))))))))), ?_⟩
  -- the length
  refine ⟨_, rfl, v, 8, x, y, z, rfl, by decide, by decide, hv, fun r x1 y1 z1 r0 r1 => ⟨1, r, rfl, rfl, ?_⟩⟩
  obtain ⟨k, rfl⟩ : ∃ k : Nat, r = (k : Int) := ⟨r.toNat, by omega⟩
  have hk : k < 8 := by omega
  have k1 : (1 + (k : Int) - 1).toNat = k := by omega
  have k2 : (1 + (k : Int)).toNat = k + 1 := by omega
  have sx0 : SameX v H (upd H v (Vt x1 y1 z1)) := SameX.upd
  have hv0 : (upd H v (Vt x1 y1 z1)) v = some (Vt x1 y1 z1) := upd_same
  generalize upd H v (Vt x1 y1 z1) = H0 at sx0 hv0
  have few := Nst.rows_few hk
  have pos := Nst.rows_pos k
  -- the rows
  refine ⟨_, rfl, _, rfl, by omega, by omega, fun H1 r1 xs1 s1 _ e1 T1 => ?_⟩
  rw [k1] at T1
  have lx1 := tups_len T1
  have lw : (Nst.wordsK k).length ≤ 128 := by
    rw [words_len]
    exact Nat.le_trans (Nat.pow_le_pow_right (by decide) (by omega : k ≤ 7)) (by decide)
  refine ⟨r1, rfl, ⟨_, .inl (.inl e1)⟩, fun D nD => lc_list (xs := xs1) (fun i H' => Same H1 H' ∧ ∃ ys, H' D = some (.lst ys) ∧ Tups K H' ys (((Nst.wordsK k).take i).map Nst.rowOf)) ⟨same_upd nD, [], upd_same, .nil⟩
    (fun i H' _ p => p.1.seq (.inl (.inl e1))) (fun i u H' hu p => ?_) fun H' p => ?_⟩
  · obtain ⟨sm, ys, hD, hT⟩ := p
    have hi : i < (Nst.wordsK k).length := by rw [← lx1]; exact (List.getElem?_eq_some_iff.mp hu).1
    have hrow : (Nst.wordsK k)[i]? = some (Nst.wordsK k)[i] := List.getElem?_eq_getElem hi
    have lrow := words_word k (Nst.wordsK k)[i] (List.getElem_mem hi)
    generalize (Nst.wordsK k)[i] = row at hrow lrow
    obtain ⟨tp, hu2, hq⟩ := tups_get T1 hrow
    rw [hu] at hu2
    obtain rfl : u = V.ref tp := Option.some.inj hu2
    refine ⟨rfl, ?_⟩
    refine ⟨_, rfl, tp, row, rfl, Same.tupAt sm hq, by omega, by omega, fun H4 r4 s4 nr4 e4 => ?_⟩
    have hD4 : H4 D = some (.lst ys) := s4 _ _ hD
    have nDr : r4 ≠ D := fun e => by rw [e, hD] at nr4; cases nr4
    refine ⟨ys, hD4, ?_, same_at (sm.trans s4) nD, _, upd_same, ?_⟩
    · rw [tups_len hT, List.length_map, List.length_take]
      exact small1000 (by omega)
    · rw [take_more hrow, List.map_append]
      refine tups_app (SameX.tups hD4 SameX.upd (Same.tups s4 hT)) (tups_one (.inl (.inl ?_)))
      rw [upd_ne nDr]
      exact e4
  obtain ⟨sm, ys, hD, hT⟩ := p
  rw [lx1, List.take_length] at hT
  refine ⟨D, ys, _, rfl, .inl (.inl hD), hT, fun ns hn => ?_, fun Rr zs nR hZ => ?_⟩
  · obtain ⟨wd, hwd, e⟩ := List.mem_map.mp hn
    have l0 := words_word k wd hwd
    intro e0
    have l1 : ns.length = wd.length := by
      rw [← e]
      show (Nst.isD (Nst.rawFrom 0 wd)).length = wd.length
      rw [(Nst.isD_perm _).length_eq, Nst.raw_len]
    rw [e0, l0] at l1
    cases l1
  have hZ2 : Tups K (upd H' Rr (.lst zs)) zs (Nst.rowsK k) := Same.tups (same_upd nR) hZ
  have s02 : Same H0 (upd H' Rr (.lst zs)) := s1.trans (sm.trans (same_upd nR))
  have eR : (upd H' Rr (.lst zs)) Rr = some (.lst zs) := upd_same
  have nRv : Rr ≠ v := fun e => by
    have z1 := s1.trans sm _ _ hv0
    rw [← e, nR] at z1
    cases z1
  generalize upd H' Rr (.lst zs) = H2 at hZ2 s02 eR
  clear hZ hT hD sm nD
  have hv2 : H2 v = some (Vt x1 y1 z1) := s02 _ _ hv0
  have sx2 : SameX v H H2 := sx0.trans (Same.x v s02)
  have lz := tups_len hZ2
  -- len(set(rows)) != len(rows)
  refine ⟨_, rfl, Rr, zs, _, rfl, .inl (.inl eR), hZ2, by omega, Nst.hash_nd hk, _, rfl, Rr, _, rfl, .inl (.inl (.inl eR)), rfl, _, rfl, ?_⟩
  rw [decV, decide_eq_true (by rw [lz] : (((Nst.rowsK k).length : Nat) : Int) = ((zs.length : Nat) : Int))]
  refine iteF ?_
  -- for total
  have en : ((1 + (k : Int)) * (1 + (k : Int) - 1) + 3).toNat = (k + 1) * k + 3 := by
    have e1 : (1 + (k : Int)) * (1 + (k : Int) - 1) = (((k + 1) * k : Nat) : Int) := by
      rw [show 1 + (k : Int) - 1 = (k : Int) by omega, show 1 + (k : Int) = ((k + 1 : Nat) : Int) by omega]
      rfl
    rw [e1]
    omega
  have kk : (k + 1) * k ≤ 56 := by
    have a1 : k + 1 ≤ 8 := by omega
    have a2 : k ≤ 7 := by omega
    exact Nat.mul_le_mul a1 a2
  refine ⟨_, rfl, _, rfl, _, _, rfl, rfl, _, _, rfl, rfl, .inl ⟨by omega, by omega⟩, _, _, rfl, rfl, _, rfl, ?_, ?_, ?_⟩
  · have e1 : (1 + (k : Int)) * (1 + (k : Int) - 1) = (((k + 1) * k : Nat) : Int) := by
      rw [show 1 + (k : Int) - 1 = (k : Int) by omega, show 1 + (k : Int) = ((k + 1 : Nat) : Int) by omega]
      rfl
    rw [e1]
    omega
  · have e1 : (1 + (k : Int)) * (1 + (k : Int) - 1) = (((k + 1) * k : Nat) : Int) := by
      rw [show 1 + (k : Int) - 1 = (k : Int) by omega, show 1 + (k : Int) = ((k + 1 : Nat) : Int) by omega]
      rfl
    rw [e1]
    omega
  rw [en]
  refine for_range (lo := 0) (n := (k + 1) * k + 3) (fun i σ H' => ∃ y4 y5 y6 y7 y8 y9, σ = [some (.ref v), some (.int (1 + (k : Int))), some (.ref Rr), some (.int ((Nst.count k i : Nat) : Int)), y4, y5, y6, y7, y8, y9] ∧ Same H2 H') ⟨_, _, _, _, _, _, rfl, Same.refl _⟩
    (fun i σ H' hi p => ?_) fun σ H' p => ?_
  · obtain ⟨y4, y5, y6, y7, y8, y9, rfl, sm⟩ := p
    refine ⟨_, rfl, _, rfl, _, _, rfl, by omega, by omega, by omega, fun H3 r3 xs3 s3 nr3 e3 T3 => ?_⟩
    have ei : (0 : Int) + (i : Int) = ((i : Nat) : Int) := by omega
    rw [k2, ei, Nst.told hk hi] at T3
    have s23 : Same H2 H3 := sm.trans s3
    have eR3 : H3 Rr = some (.lst zs) := s23 _ _ eR
    refine ⟨_, rfl, _, rfl, Rr, rfl, ⟨_, .inl (.inl eR3)⟩, fun D nD => lc_list (xs := zs) (fun j H4 => Same H3 H4 ∧ ∃ ys, H4 D = some (.lst ys) ∧ Tups K H4 ys (((Nst.rowsK k).take j).filter fun l => l.sum == ((i : Nat) : Int))) ⟨same_upd nD, [], upd_same, .nil⟩
      (fun j H4 _ p => p.1.seq (.inl (.inl eR3))) (fun j u H4 hu p => ?_) fun H4 p => ?_⟩
    · obtain ⟨sm4, ys, hD, hT⟩ := p
      have hj : j < (Nst.rowsK k).length := by rw [← lz]; exact (List.getElem?_eq_some_iff.mp hu).1
      have hrow : (Nst.rowsK k)[j]? = some (Nst.rowsK k)[j] := List.getElem?_eq_getElem hj
      generalize (Nst.rowsK k)[j] = row at hrow
      obtain ⟨tp, hu2, hq⟩ := tups_get hZ2 hrow
      rw [hu] at hu2
      obtain rfl : u = V.ref tp := Option.some.inj hu2
      have hq4 : SqT K H4 tp (Is row) := Same.tupAt (s23.trans sm4) hq
      refine ⟨rfl, _, rfl, tp, row, rfl, hq4, _, rfl, rfl, _, rfl, ?_⟩
      rw [decV, ei]
      refine ite2 (fun d => ?_) (fun d => ?_)
      · have d1 : (row.sum == ((i : Nat) : Int)) = true := by rw [beq_iff_eq]; exact of_decide_eq_true d
        refine ⟨_, rfl, ys, hD, ?_, same_at sm4 nD, _, upd_same, ?_⟩
        · rw [tups_len hT]
          exact small1000 (Nat.le_trans (List.length_filter_le _ _) (by rw [List.length_take]; omega))
        · have f1 : [row].filter (fun l => l.sum == ((i : Nat) : Int)) = [row] := List.filter_cons_of_pos d1
          rw [take_more hrow, List.filter_append, f1]
          exact tups_app (SameX.tups hD SameX.upd hT) (tups_one (SameX.tupAt hD SameX.upd hq4))
      · have d1 : ¬ (row.sum == ((i : Nat) : Int)) = true := by
          rw [beq_iff_eq]
          exact of_decide_eq_false (Bool.eq_false_iff.mpr d)
        refine ⟨sm4, ys, hD, ?_⟩
        have f1 : [row].filter (fun l => l.sum == ((i : Nat) : Int)) = [] := List.filter_cons_of_neg d1
        rw [take_more hrow, List.filter_append, f1, List.append_nil]
        exact hT
    · obtain ⟨sm4, ys, hD, hT⟩ := p
      rw [lz, List.take_length] at hT
      have e4 : (Nst.rowsK k).filter (fun l => l.sum == ((i : Nat) : Int)) = Nst.ofTotal k i := rfl
      rw [e4] at hT
      refine ⟨D, ys, rfl, .inl ⟨.inl (.inl hD), fun t nt => ?_⟩⟩
      have st := same_upd (o := .tup ys) nt
      have e5 : (upd H4 t (.tup ys)) r3 = some (.tup xs3) := st _ _ (sm4 _ _ e3)
      refine ⟨_, _, .tup (.inl (.inl e5)) (rows_dp (Same.tups (sm4.trans st) T3)), .tup (.inl (.inl upd_same)) (rows_dp (Same.tups st hT)), tup_shaped _, tup_shaped _, _, rfl, ?_⟩
      rw [tup_same]
      refine iteF ?_
      refine ⟨_, rfl, _, rfl, r3, _, rfl, .inr (.inl (.inl e5)), _, _, rfl, rfl, ?_⟩
      have ec : ((Nst.count k (i + 1) : Nat) : Int) = ((Nst.count k i : Nat) : Int) + ((xs3.length : Nat) : Int) := by
        rw [Nst.count_succ, tups_len T3]
        omega
      refine ⟨some (.int (0 + (i : Int))), some (.ref r3), y6, y7, y8, y9, ?_, s23.trans (sm4.trans st)⟩
      rw [ec]
      rfl
  -- behind the totals
  · obtain ⟨y4, y5, y6, y7, y8, y9, rfl, sm⟩ := p
    rw [Nst.count_all hk]
    have eR3 : H' Rr = some (.lst zs) := sm _ _ eR
    refine ⟨_, rfl, _, rfl, Rr, _, rfl, .inl (.inl (.inl eR3)), rfl, _, rfl, ?_⟩
    rw [decV, decide_eq_true (by rw [lz] : (((Nst.rowsK k).length : Nat) : Int) = ((zs.length : Nat) : Int))]
    refine iteF ?_
    refine ⟨_, rfl, _, _, rfl, rfl, ⟨by decide, by decide, by decide⟩, _, _, rfl, by omega, by omega, by decide +kernel, fun H3 r3 xs3 s3 nr3 e3 T3 => ?_⟩
    have far : (10 : Int) ^ (30 : Int).toNat = 1000000000000000000000000000000 := by decide +kernel
    rw [k2, far, Nst.far_none hk] at T3
    refine ⟨by show 0 ≤ sizeLine; decide, fun t nt => ?_⟩
    have st := same_upd (o := .tup []) nt
    have e5 : (upd H3 t (.tup [])) r3 = some (.tup xs3) := st _ _ e3
    refine ⟨_, _, .tup (.inl (.inl e5)) (rows_dp (Same.tups st T3)), .tup (.inl (.inl upd_same)) (rows_dp (nss := []) .nil), tup_shaped _, tup_shaped _, _, rfl, ?_⟩
    rw [show Nst.isA [] = [] from rfl, tup_same]
    refine iteF ?_
    have s2t : Same H2 (upd H3 t (.tup [])) := sm.trans (s3.trans st)
    generalize upd H3 t (.tup []) = H4 at s2t
    clear T3 e5 st e3 nr3 s3
    have hv4 : H4 v = some (Vt x1 y1 z1) := s2t _ _ hv2
    have eR4 : H4 Rr = some (.lst zs) := s2t _ _ eR
    have hZ4 : Tups K H4 zs (Nst.rowsK k) := Same.tups s2t hZ2
    have sx4 : SameX v H H4 := sx2.trans (Same.x v s2t)
    -- the drawn rows
    refine ⟨4, rfl, by decide, by decide, for_range (lo := 0) (n := 4) (fun i σ H' => ∃ y3 y4 y5 y6 y7 y8 y9, σ = [some (.ref v), some (.int (1 + (k : Int))), some (.ref Rr), y3, y4, y5, y6, y7, y8, y9] ∧ SameX v H4 H' ∧ ∃ x y z, H' v = some (Vt x y z))
      ⟨_, _, _, _, _, _, _, rfl, SameX.refl _ _, _, _, _, hv4⟩ (fun i σ H5 hi p => ?_) fun σ H5 p => ?_⟩
    · obtain ⟨y3, y4, y5, y6, y7, y8, y9, rfl, sx, x5, y5', z5, hv5⟩ := p
      have kt : (1 + (k : Int)).toNat = k + 1 := k2
      refine ⟨_, rfl, 1 + (k : Int), rfl, by omega, by omega, fun D nD => ?_⟩
      rw [kt]
      have nDv : D ≠ v := fun e => by rw [e, hv5] at nD; cases nD
      refine lc_range (lo := 0) (n := k + 1) (fun j H6 => SameX v H5 H6 ∧ (∃ x y z, H6 v = some (Vt x y z)) ∧ ∃ ds : List Int, H6 D = some (.lst (Is ds)) ∧ ds.length = j ∧ ∀ d ∈ ds, 0 ≤ d ∧ d ≤ ((k + 1 : Nat) : Int))
        ⟨Same.x v (same_upd nD), ⟨x5, y5', z5, by rw [upd_ne (Ne.symm nDv)]; exact hv5⟩, [], upd_same, rfl, fun d hd => nomatch hd⟩ (fun j H6 hj p => ?_) fun H6 p => ?_
      · obtain ⟨sx6, ⟨x6, y6', z6, hv6⟩, ds, hD, ld, bd⟩ := p
        refine ⟨rfl, ?_⟩
        refine ⟨_, rfl, _, rfl, _, _, rfl, rfl, v, 1 + (k : Int) + 1, x6, y6', z6, rfl, by omega, by omega, hv6, fun d x7 y7' z7 d0 d1 => ?_⟩
        have hD7 : (upd H6 v (Vt x7 y7' z7)) D = some (.lst (Is ds)) := by rw [upd_ne nDv]; exact hD
        refine ⟨Is ds, hD7, ?_, ?_, ⟨x7, y7', z7, ?_⟩, ds ++ [d], ?_, ?_, fun e he => ?_⟩
        · rw [is_len, ld]
          exact small1000 (by omega)
        · exact fun b o nb e => by rw [upd_ne (ne_of_none e nD), upd_ne nb]; exact sx6 b o nb e
        · rw [upd_ne (Ne.symm nDv), upd_same]
        · rw [upd_same]
          show some (HO.lst (Is ds ++ [V.int d])) = some (HO.lst (List.map V.int (ds ++ [d])))
          rw [List.map_append]
          rfl
        · rw [List.length_append, ld]
          rfl
        · rcases List.mem_append.mp he with he | he
          · exact bd e he
          · rw [List.mem_singleton.mp he]
            exact ⟨d0, by omega⟩
      · obtain ⟨sx6, ⟨x6, y6', z6, hv6⟩, ds, hD, ld, bd⟩ := p
        refine ⟨D, Is ds, rfl, .inl ⟨.inl (.inl hD), fun t nt => ?_⟩⟩
        have st := same_upd (o := .tup (Is ds)) nt
        have hRow := row_of hk ld bd
        refine ⟨_, rfl, t, ds, rfl, .inl (.inl upd_same), hRow, fun H7 s7 => ?_⟩
        have et7 : H7 t = some (.tup (Is ds)) := s7 _ _ upd_same
        refine ⟨_, rfl, t, ds, rfl, rfl, .inl (.inl et7), fun p np => ?_⟩
        have sp := same_upd (o := .lst (Is (Nst.isD ds))) np
        refine ⟨p, _, rfl, .inl ⟨.inl (.inl upd_same), fun u nu => ?_⟩⟩
        have su := same_upd (o := .tup (Is (Nst.isD ds))) nu
        have s6u : Same H6 (upd (upd H7 p (.lst (Is (Nst.isD ds)))) u (.tup (Is (Nst.isD ds)))) := st.trans (s7.trans (sp.trans su))
        have x4u : SameX v H4 (upd (upd H7 p (.lst (Is (Nst.isD ds)))) u (.tup (Is (Nst.isD ds)))) := sx.trans (sx6.trans (Same.x v s6u))
        refine ⟨_, rfl, encT (Nst.isD ds), (Nst.rowsK k).map encT, row_dp (.inl (.inl upd_same)), .lst (.inl (.inl (x4u _ _ nRv eR4))) (rows_dp (SameX.tups hv4 x4u hZ4)), encT_shaped _, list_shaped _, ?_⟩
        rw [mem_rows, Nst.drawn hk ld bd]
        refine ⟨rfl, _, rfl, ?_⟩
        rw [decide_eq_true rfl]
        refine iteF ?_
        exact ⟨_, _, _, _, _, _, _, rfl, x4u, x6, y6', z6, s6u _ _ hv6⟩
    · obtain ⟨y3, y4, y5, y6, y7, y8, y9, rfl, sx, x5, y5', z5, hv5⟩ := p
      have eR5 : H5 Rr = some (.lst zs) := sx _ _ nRv eR4
      have hZ5 : Tups K H5 zs (Nst.rowsK k) := SameX.tups hv4 sx hZ4
      refine ⟨_, rfl, _, rfl, _, rfl, v, Rr, zs, x5, y5', z5, rfl, hv5, nRv, .inl (.inl eR5), by omega, by omega, fun u x6 y6' z6 hu => ?_⟩
      obtain ⟨t, ns, hn, rfl, hq⟩ := tups_mem hZ5 hu
      have L := Nst.listed hk hn
      have hv6 : (upd H5 v (Vt x6 y6' z6)) v = some (Vt x6 y6' z6) := upd_same
      have hq6 : SqT K (upd H5 v (Vt x6 y6' z6)) t (Is ns) := SameX.tupAt hv5 SameX.upd hq
      refine ⟨v, t, ns, x6, y6', z6, rfl, hv6, hq6, by rw [L.len]; omega, fun H7 r7 ms x7 y7' z7 sx7 hv7 _ e7 pm => ?_⟩
      refine ⟨r7, _, rfl, .inl ⟨.inl (.inl e7), fun p np => ?_⟩⟩
      have hRow := row_of hk (pm.length_eq.trans L.len) fun x hx => L.bd x (pm.mem_iff.mp hx)
      refine ⟨p, ms, rfl, .inl (.inl upd_same), hRow, fun H8 s8 => ?_⟩
      have e1 : Nst.isD ms = ns := by
        have z := Nst.isD_of (l := ms) (m := ns) pm.symm (by rw [← L.fall]; exact Nst.isD_sorted ns)
        exact z.symm
      rw [e1, L.nest]
      refine q H8 (sx4.trans (sx.trans ?_))
      exact SameX.trans SameX.upd (sx7.trans (Same.x v ((same_upd np).trans s8)))
end
end Kq

namespace Kq
open PySem PySem.Spec PyProof.Rows L2 KR
/-! ### law -/
def t48 : List (List Int) := [[3, 2, 2, 1]]
def t46 : List (List Int) := [[2, 2, 2, 0], [3, 1, 1, 1]]
def t10 : List (List Int) := [[0]]
def t90 : List (List Int) := [[9, 9, 9, 9, 9, 9, 9, 9, 9, 9]]
theorem n48 : Nst.isA (Nst.nin (4 : Int).toNat 8) = t48 := by decide +kernel
theorem n46 : Nst.isA (Nst.nin (4 : Int).toNat 6) = t46 := by decide +kernel
theorem n33 : Nst.isA (Nst.nin (3 : Int).toNat 3) = [] := by decide +kernel
theorem n10 : Nst.isA (Nst.nin (1 : Int).toNat 0) = t10 := by decide +kernel
theorem n90 : Nst.isA (Nst.nin (10 : Int).toNat 90) = t90 := by decide +kernel
def five : PyData := .list [.tuple (t48.map encT), .tuple (t46.map encT), .tuple (([] : List (List Int)).map encT), .tuple (t10.map encT), .tuple (t90.map encT)]
theorem five_lay : five.canLay0 = true := by decide +kernel
theorem five_shaped : SeqAt.shaped five = true := by decide +kernel
theorem five_dp {K : PySem.W.Frag} {H : Hp} {a p1 p2 p3 p4 p5 : Addr} {x1 x2 x3 x4 x5 : List V} (h : SqL K H a [.ref p1, .ref p2, .ref p3, .ref p4, .ref p5]) (e1 : SqT K H p1 x1) (q1 : Tups K H x1 t48) (e2 : SqT K H p2 x2) (q2 : Tups K H x2 t46)
    (e3 : SqT K H p3 x3) (q3 : Tups K H x3 []) (e4 : SqT K H p4 x4) (q4 : Tups K H x4 t10) (e5 : SqT K H p5 x5) (q5 : Tups K H x5 t90) : Dp K H (.ref a) five :=
  .lst h (.cons (.tup e1 (rows_dp q1)) (.cons (.tup e2 (rows_dp q2)) (.cons (.tup e3 (rows_dp q3)) (.cons (.tup e4 (rows_dp q4)) (.cons (.tup e5 (rows_dp q5)) .nil)))))
mutual
theorem dp_same {K : PySem.W.Frag} {H H' : Hp} (e : Same H H') : ∀ (d : PyData) (v : V), Dp K H v d → Dp K H' v d
  | .none, _, h => by cases h; exact .non
  | .bool b, _, h => by cases h; exact .bl b
  | .int i, _, h => by cases h; exact .int i
  | .str x, _, h => by cases h; exact .str x
  | .list ds, _, h => by
    cases h with
    | lst h1 h2 => exact .lst (e.seq h1) (dps_same e ds _ h2)
  | .tuple ds, _, h => by
    cases h with
    | tup h1 h2 => exact .tup (Same.tupAt e h1) (dps_same e ds _ h2)
  | .dict _, _, h => by cases h
theorem dps_same {K : PySem.W.Frag} {H H' : Hp} (e : Same H H') : ∀ (ds : List PyData) (vs : List V), DpAll K H vs ds → DpAll K H' vs ds
  | [], _, h => by cases h; exact .nil
  | d :: ds, _, h => by
    cases h with
    | cons h1 h2 => exact .cons (dp_same e d _ h1) (dps_same e ds _ h2)
end
theorem five_same {K : PySem.W.Frag} {H H' : Hp} {v : V} (e : Same H H') (h : Dp K H v five) : Dp K H' v five := dp_same e five v h
theorem tup_in {K : PySem.W.Frag} {H : Hp} {p : Addr} {xs : List V} (h : H p = some (.tup xs)) : SqT K H p xs := .inl (.inl h)
section
variable {P : Program} {w : World} {K : PySem.W.Frag} {mg : Str → Option Value} {base : Heap}
def spLaw (K : PySem.W.Frag) : Sp := fun vs H Q _ => ∃ (a : Addr) (ns : List Int), vs = [.ref a] ∧ SqL K H a (Is ns) ∧ ns.length ≤ 63 ∧ ∀ H', Q (.bl true) H'
theorem scLaw : FnScope ["_law_script", "_law_spot", "_law_told"] ["_law_script"] (defScope sLaw) := ⟨rfl, rfl, rfl, by decide +kernel, rfl, by decide +kernel, by decide +kernel⟩
theorem ok_law {f g1 g2 g3 : Addr} {fd gd1 gd2 gd3 : FuncData} (B : Bn mg) (F : Fun K "law" "law" sLaw f fd) (Gv : Df P w K mg base "_law_vat" ["_law_script", "_law_spot"] 1 (spVat K) g1 gd1) (Gt : Df P w K mg base "_law_right" ["_law_vat_here"] 18 spRight g2 gd2)
    (Gr : Df P w K mg base "nested_rows" ["places", "total"] 17 (spRows K) g3 gd3) : FnOk P w K mg base CX0 19 f fd ["_law_script"] (spLaw K) := by
  refine F.ok scLaw (fun vs H Q E h => ?_) (fun cdv A outer s H vs Q E hr h => ?_)
  · obtain ⟨a, ns, rfl, _⟩ := h
    rfl
  obtain ⟨a, ns, rfl, hS, h63, q⟩ := h
  have nd := scLaw.nd
  refine ⟨_, pss_cons (ps_for PassesOwn.never rfl (pi_range1 (by rfl) B.range (pa_cons (pe_callB (call_max2 rfl) (by rfl) B.max (by decide +kernel) (pa_cons pe_int (pa_cons (pe_callB (call_min2 rfl) (by rfl) B.min (by decide +kernel) (pa_cons pe_int (pa_cons (pe_callB call_len_seq (by rfl) B.len PySem.boot_len (pa_cons (pv 0) pa_nil)) pa_nil))) pa_nil))) pa_nil)) (pg_name (i := 1) nd rfl (.inl rfl))
      (pss_one (ps_if (pt_not (pt_val (pe_df Gt hr (pa_cons (pe_df Gv hr (pa_cons (pv 0) (pa_cons (pv 1) pa_nil))) pa_nil)))) (pss_one (ps_ret pe_bl)) pss_nil)))
    (pss_cons (ps_set (i := 2) nd rfl (.inl rfl) (pe_lst (pa_cons (pe_df Gr hr (pa_cons pe_int (pa_cons pe_int pa_nil))) (pa_cons (pe_df Gr hr (pa_cons pe_int (pa_cons pe_int pa_nil))) (pa_cons (pe_df Gr hr (pa_cons pe_int (pa_cons pe_int pa_nil)))
        (pa_cons (pe_df Gr hr (pa_cons pe_int (pa_cons pe_int pa_nil))) (pa_cons (pe_df Gr hr (pa_cons pe_int (pa_cons pe_int pa_nil))) pa_nil)))))))
    (pss_one (ps_ret (pe_cmpR (op_eqD (room64 hr)) (pv 2) (pe_lst
      (pa_cons (pe_tup (pa_cons (pe_tup (pa_cons pe_int (pa_cons pe_int (pa_cons pe_int (pa_cons pe_int pa_nil))))) pa_nil))
      (pa_cons (pe_tup (pa_cons (pe_tup (pa_cons pe_int (pa_cons pe_int (pa_cons pe_int (pa_cons pe_int pa_nil))))) (pa_cons (pe_tup (pa_cons pe_int (pa_cons pe_int (pa_cons pe_int (pa_cons pe_int pa_nil))))) pa_nil)))
      (pa_cons (pe_tup pa_nil)
      (pa_cons (pe_tup (pa_cons (pe_tup (pa_cons pe_int pa_nil)) pa_nil))
      (pa_cons (pe_tup (pa_cons (pe_op op_repT (pe_tup (pa_cons pe_int pa_nil)) pe_int) pa_nil)) pa_nil)))))) (nomark _))))), ?_⟩
  have le1 : ∀ m : Nat, m ≤ 16 → m ≤ sizeLine := fun m hm => by rw [sizeLine_eq]; omega
  -- the cells
  refine ⟨_, rfl, a, _, rfl, .inl hS, 6, _, rfl, 1, _, rfl, _, rfl, ?_, ?_, ?_⟩
  · split <;> split <;> omega
  · split <;> split <;> omega
  generalize (if (if ((Is ns).length : Int) < 6 then ((Is ns).length : Int) else 6) > 1 then (if ((Is ns).length : Int) < 6 then ((Is ns).length : Int) else 6) else 1).toNat = N
  refine for_range (lo := 0) (n := N) (fun i σ H' => ∃ y1 y2, σ = [some (.ref a), y1, y2] ∧ Same H H') ⟨_, _, rfl, Same.refl _⟩ (fun i σ H' hi p => ?_) fun σ H' p => ?_
  · obtain ⟨y1, y2, rfl, sm⟩ := p
    refine ⟨_, rfl, _, rfl, a, ns, _, rfl, sm.seq hS, by omega, fun r x y z nr => ?_⟩
    have nrH : H r = none := Same.free sm nr
    refine ⟨r, x, y, z, rfl, upd_same, fun H2 sx => ⟨true, rfl, iteF ⟨_, _, rfl, fun b o e => ?_⟩⟩⟩
    have nb : b ≠ r := ne_of_none e nrH
    exact sx b o nb (by rw [upd_ne nb]; exact sm _ _ e)
  obtain ⟨y1, y2, rfl, sm⟩ := p
  -- five lists told
  refine ⟨4, 8, rfl, by decide, by decide, by decide, fun H1 r1 a1 s1 _ e1 T1 => ?_⟩
  refine ⟨4, 6, rfl, by decide, by decide, by decide, fun H2 r2 a2 s2 _ e2 T2 => ?_⟩
  refine ⟨3, 3, rfl, by decide, by decide, by decide, fun H3 r3 a3 s3 _ e3 T3 => ?_⟩
  refine ⟨1, 0, rfl, by decide, by decide, by decide, fun H4 r4 a4 s4 _ e4 T4 => ?_⟩
  refine ⟨10, 90, rfl, by decide, by decide, by decide, fun H5 r5 a5 s5 _ e5 T5 => ?_⟩
  rw [n48] at T1
  rw [n46] at T2
  rw [n33] at T3
  rw [n10] at T4
  rw [n90] at T5
  refine ⟨le1 5 (by decide), fun L nL => ?_⟩
  have sL := same_upd (o := .lst [.ref r1, .ref r2, .ref r3, .ref r4, .ref r5]) nL
  have eL : (upd H5 L (.lst [.ref r1, .ref r2, .ref r3, .ref r4, .ref r5])) L = some (.lst [.ref r1, .ref r2, .ref r3, .ref r4, .ref r5]) := upd_same
  have dL : Dp K (upd H5 L (.lst [.ref r1, .ref r2, .ref r3, .ref r4, .ref r5])) (.ref L) five := by
    have c1 := s2.trans (s3.trans (s4.trans (s5.trans sL)))
    have c2 := s3.trans (s4.trans (s5.trans sL))
    have c3 := s4.trans (s5.trans sL)
    have c4 := s5.trans sL
    exact five_dp (.inl (.inl eL)) (tup_in (c1 _ _ e1)) (Same.tups c1 T1) (tup_in (c2 _ _ e2)) (Same.tups c2 T2) (tup_in (c3 _ _ e3)) (Same.tups c3 T3) (tup_in (c4 _ _ e4)) (Same.tups c4 T4) (tup_in (sL _ _ e5)) (Same.tups sL T5)
  generalize upd H5 L (.lst [.ref r1, .ref r2, .ref r3, .ref r4, .ref r5]) = H6 at dL
  have dl : ∀ H', Same H6 H' → Dp K H' (.ref L) five := fun H' sm' => five_same sm' dL
  refine ⟨_, rfl, ?_⟩
  refine ⟨le1 4 (by decide), fun a1 n1 => ?_⟩
  have s1 := same_upd (o := .tup [.int 3, .int 2, .int 2, .int 1]) n1
  refine ⟨le1 1 (by decide), fun a2 n2 => ?_⟩
  have s2 := same_upd (o := .tup [.ref a1]) n2
  refine ⟨le1 4 (by decide), fun a3 n3 => ?_⟩
  have s3 := same_upd (o := .tup [.int 2, .int 2, .int 2, .int 0]) n3
  refine ⟨le1 4 (by decide), fun a4 n4 => ?_⟩
  have s4 := same_upd (o := .tup [.int 3, .int 1, .int 1, .int 1]) n4
  refine ⟨le1 2 (by decide), fun a5 n5 => ?_⟩
  have s5 := same_upd (o := .tup [.ref a3, .ref a4]) n5
  refine ⟨le1 0 (by decide), fun a6 n6 => ?_⟩
  have s6 := same_upd (o := .tup []) n6
  refine ⟨le1 1 (by decide), fun a7 n7 => ?_⟩
  have s7 := same_upd (o := .tup [.int 0]) n7
  refine ⟨le1 1 (by decide), fun a8 n8 => ?_⟩
  have s8 := same_upd (o := .tup [.ref a7]) n8
  refine ⟨le1 1 (by decide), fun a9 n9 => ?_⟩
  have s9 := same_upd (o := .tup [.int 9]) n9
  refine ⟨a9, 10, [.int 9], rfl, rfl, tup_in upd_same, by simp, by decide, by decide, by show 1 ≤ 1000; decide, fun a10 n10 => ?_⟩
  have s10 := same_upd (o := .tup (List.replicate (10 : Int).toNat [V.int 9]).flatten) n10
  refine ⟨le1 1 (by decide), fun a11 n11 => ?_⟩
  have s11 := same_upd (o := .tup [.ref a10]) n11
  refine ⟨le1 5 (by decide), fun a12 n12 => ?_⟩
  have s12 := same_upd (o := .lst [.ref a2, .ref a5, .ref a6, .ref a8, .ref a11]) n12
  have c11 := s12
  have c10 := s11.trans c11
  have c9 := s10.trans c10
  have c8 := s9.trans c9
  have c7 := s8.trans c8
  have c6 := s7.trans c7
  have c5 := s6.trans c6
  have c4 := s5.trans c5
  have c3 := s4.trans c4
  have c2 := s3.trans c3
  have c1 := s2.trans c2
  have c0 := s1.trans c1
  refine ⟨five, five, dl _ c0, five_dp (.inl (.inl upd_same)) (tup_in (c2 _ _ upd_same)) (tups_one (tup_in (c1 _ _ upd_same))) (tup_in (c5 _ _ upd_same)) (tups_app (tups_one (ns := [2, 2, 2, 0]) (tup_in (c3 _ _ upd_same))) (tups_one (ns := [3, 1, 1, 1]) (tup_in (c4 _ _ upd_same))))
    (tup_in (c6 _ _ upd_same)) .nil (tup_in (c8 _ _ upd_same)) (tups_one (tup_in (c7 _ _ upd_same))) (tup_in (c11 _ _ upd_same)) (tups_one (tup_in (c10 _ _ upd_same))), five_shaped, five_shaped, ?_⟩
  rw [SeqAt.eqv_refl five five_lay]
  exact q _
end
end Kq

namespace Kq
open PySem PySem.Spec PyProof.Rows L2 KR
/-! ### the defs as they stand behind the top -/
/-- a def of the top -/
structure At (K : PySem.W.Frag) (x : Str) (st : Stmt) (f : Addr) (fd : FuncData) : Prop where
  a : PySem.W.nsIn K mainGlobals x = some (some (.ref f))
  F : Fun K x x st f fd
theorem at_mk {K : PySem.W.Frag} {x : Str} {st : Stmt} {f : Addr} {oc : Value} {od an : Option Addr} {osl : Array (Option Value)} {kV doc pm cdv ct : Value} (a : PySem.W.nsIn K mainGlobals x = some (some (.ref f)))
    (l : K.lookup f = some ⟨oc, od, .func (PySem.W.fnOf x x (defArgs st) (defBody st) (defScope st) .none kV doc pm an cdv ct), osl⟩) (c : PySem.W.codeIn K cdv x = true) (k : PySem.W.keepIn K (.ref f) = true) :
    ∃ fd, At K x st f fd := ⟨_, a, fun_mk l c k⟩
theorem At.df {P : Program} {w : World} {K : PySem.W.Frag} {mg : Str → Option Value} {base h : Heap} {x : Str} {st : Stmt} {f : Addr} {fd : FuncData} {ps : List Str} {k : Nat} {sp : Sp} (T : At K x st f fd) (X : K.In h) (G : h.Ns mainGlobals mg)
    (b : Binds K fd ps []) (ok : FnOk P w K mg base CX0 k f fd ps sp) : Df P w K mg base x ps k sp f fd := ⟨ok, b, T.F.kp, PySem.W.mg_of X G T.a⟩

theorem all_mk {l : PySem.W.OpenLaw} {w : World} {K : PySem.W.Frag} {h : Heap} {mg : Str → Option Value} {fa : Addr} {tn tl tp : Tok} (X : K.In h) (G : h.Ns mainGlobals mg) (hfa : mg "law" = some (.ref fa)) (mb : mg "MAX_NUMBER" = some (.int big tn))
    {f1 : Addr} (T1 : ∃ fd, At K "is_integer" sInteger f1 fd)
    {f2 : Addr} (T2 : ∃ fd, At K "is_from" sFrom f2 fd)
    {f3 : Addr} (T3 : ∃ fd, At K "is_amount" sAmount f3 fd)
    {f4 : Addr} (T4 : ∃ fd, At K "is_row" sIsRow f4 fd)
    {f5 : Addr} (T5 : ∃ fd, At K "require_row" sReq f5 fd)
    {f6 : Addr} (T6 : ∃ fd, At K "falling" sFalling f6 fd)
    {f7 : Addr} (T7 : ∃ fd, At K "is_nested_in" sNestedIn f7 fd)
    {f8 : Addr} (T8 : ∃ fd, At K "is_nested_row" sNestedRow f8 fd)
    {f9 : Addr} (T9 : ∃ fd, At K "nested_in" sNin f9 fd)
    {f10 : Addr} (T10 : ∃ fd, At K "nested_rows" sRows f10 fd)
    {f11 : Addr} (T11 : ∃ fd, At K "_law_vat" sVat f11 fd)
    {f12 : Addr} (T12 : ∃ fd, At K "_law_dip" sDip f12 fd)
    {f13 : Addr} (T13 : ∃ fd, At K "_law_pick" sPick f13 fd)
    {f14 : Addr} (T14 : ∃ fd, At K "_law_mixed" sMixed f14 fd)
    {f15 : Addr} (T15 : ∃ fd, At K "_law_words" sWords f15 fd)
    {f16 : Addr} (T16 : ∃ fd, At K "_law_row_of" sRowOf f16 fd)
    {f17 : Addr} (T17 : ∃ fd, At K "_law_right" sRight f17 fd)
    {f18 : Addr} (T18 : ∃ fd, At K "law" sLaw f18 fd)
    (cl : PySem.W.nsIn K mainGlobals "MAX_LENGTH" = some (some (.int 64 tl))) (cp : PySem.W.nsIn K mainGlobals "MAX_PLACES" = some (some (.int 16 tp)))
    (z_len : PySem.W.nsIn K mainGlobals "len" = some none)
    (z_isi : PySem.W.nsIn K mainGlobals "isinstance" = some none)
    (z_int : PySem.W.nsIn K mainGlobals "int" = some none)
    (z_bool : PySem.W.nsIn K mainGlobals "bool" = some none)
    (z_tup : PySem.W.nsIn K mainGlobals "tuple" = some none)
    (z_all : PySem.W.nsIn K mainGlobals "all" = some none)
    (z_sorted : PySem.W.nsIn K mainGlobals "sorted" = some none)
    (z_enum : PySem.W.nsIn K mainGlobals "enumerate" = some none)
    (z_abs : PySem.W.nsIn K mainGlobals "abs" = some none)
    (z_max : PySem.W.nsIn K mainGlobals "max" = some none)
    (z_min : PySem.W.nsIn K mainGlobals "min" = some none)
    (z_range : PySem.W.nsIn K mainGlobals "range" = some none)
    (z_sum : PySem.W.nsIn K mainGlobals "sum" = some none)
    (z_list : PySem.W.nsIn K mainGlobals "list" = some none)
    (z_set : PySem.W.nsIn K mainGlobals "set" = some none)
    : ∃ fd : FuncData, (∀ (s : Shared) (v : Value), BindsTo s fd ⟨[v], []⟩ [("_law_script", v)]) ∧ ∀ base : Heap, K.In base → base.Ns mainGlobals mg → FnOk l.prog w K mg base CX0 19 fa fd ["_law_script"] (spLaw K) := by
  obtain ⟨d1, T1⟩ := T1
  obtain ⟨d2, T2⟩ := T2
  obtain ⟨d3, T3⟩ := T3
  obtain ⟨d4, T4⟩ := T4
  obtain ⟨d5, T5⟩ := T5
  obtain ⟨d6, T6⟩ := T6
  obtain ⟨d7, T7⟩ := T7
  obtain ⟨d8, T8⟩ := T8
  obtain ⟨d9, T9⟩ := T9
  obtain ⟨d10, T10⟩ := T10
  obtain ⟨d11, T11⟩ := T11
  obtain ⟨d12, T12⟩ := T12
  obtain ⟨d13, T13⟩ := T13
  obtain ⟨d14, T14⟩ := T14
  obtain ⟨d15, T15⟩ := T15
  obtain ⟨d16, T16⟩ := T16
  obtain ⟨d17, T17⟩ := T17
  obtain ⟨d18, T18⟩ := T18
  have e := hfa.symm.trans (PySem.W.mg_of X G T18.a)
  cases e
  have B : Bn mg := ⟨PySem.W.mg_none_of X G z_len, PySem.W.mg_none_of X G z_isi, PySem.W.mg_none_of X G z_int, PySem.W.mg_none_of X G z_bool, PySem.W.mg_none_of X G z_tup, PySem.W.mg_none_of X G z_all, PySem.W.mg_none_of X G z_sorted, PySem.W.mg_none_of X G z_enum, PySem.W.mg_none_of X G z_abs, PySem.W.mg_none_of X G z_max, PySem.W.mg_none_of X G z_min, PySem.W.mg_none_of X G z_range, PySem.W.mg_none_of X G z_sum, PySem.W.mg_none_of X G z_list, PySem.W.mg_none_of X G z_set⟩
  have ml := PySem.W.mg_of X G cl
  have mp := PySem.W.mg_of X G cp
  have b1 := T1.F.binds (ps := ["value"]) fun _ _ _ _ _ _ us hl => match us, hl with | [_], _ => rfl
  have b2 := T2.F.binds (ps := ["value", "first", "last"]) fun _ _ _ _ _ _ us hl => match us, hl with | [_, _, _], _ => rfl
  have b3 := T3.F.binds (ps := ["value"]) fun _ _ _ _ _ _ us hl => match us, hl with | [_], _ => rfl
  have b4 := T4.F.binds (ps := ["value"]) fun _ _ _ _ _ _ us hl => match us, hl with | [_], _ => rfl
  have b5 := T5.F.binds (ps := ["value"]) fun _ _ _ _ _ _ us hl => match us, hl with | [_], _ => rfl
  have b6 := T6.F.binds (ps := ["row"]) fun _ _ _ _ _ _ us hl => match us, hl with | [_], _ => rfl
  have b7 := T7.F.binds (ps := ["row"]) fun _ _ _ _ _ _ us hl => match us, hl with | [_], _ => rfl
  have b8 := T8.F.binds (ps := ["degrees"]) fun _ _ _ _ _ _ us hl => match us, hl with | [_], _ => rfl
  have b9 := T9.F.binds (ps := ["places", "total"]) fun _ _ _ _ _ _ us hl => match us, hl with | [_, _], _ => rfl
  have b10 := T10.F.binds (ps := ["places", "total"]) fun _ _ _ _ _ _ us hl => match us, hl with | [_, _], _ => rfl
  have b11 := T11.F.binds (ps := ["_law_script", "_law_spot"]) fun _ _ _ _ _ _ us hl => match us, hl with | [_, _], _ => rfl
  have b12 := T12.F.binds (ps := ["_law_vat_here", "_law_size"]) fun _ _ _ _ _ _ us hl => match us, hl with | [_, _], _ => rfl
  have b13 := T13.F.binds (ps := ["_law_vat_here", "_law_items"]) fun _ _ _ _ _ _ us hl => match us, hl with | [_, _], _ => rfl
  have b14 := T14.F.binds (ps := ["_law_vat_here", "_law_items"]) fun _ _ _ _ _ _ us hl => match us, hl with | [_, _], _ => rfl
  have b15 := T15.F.binds (ps := ["_law_places"]) fun _ _ _ _ _ _ us hl => match us, hl with | [_], _ => rfl
  have b16 := T16.F.binds (ps := ["_law_word"]) fun _ _ _ _ _ _ us hl => match us, hl with | [_], _ => rfl
  have b17 := T17.F.binds (ps := ["_law_vat_here"]) fun _ _ _ _ _ _ us hl => match us, hl with | [_], _ => rfl
  have b18 := T18.F.binds (ps := ["_law_script"]) fun _ _ _ _ _ _ us hl => match us, hl with | [_], _ => rfl
  refine ⟨d18, fun s v => ?_, fun base _ _ => ?_⟩
  · obtain ⟨oc, od, kV, doc, pm, an, cdv, ct, osl, efd, _, _⟩ := T18.F.ex
    subst efd
    exact .of_eq rfl
  have G1 := T1.df X G b1 (ok_integer (P := l.prog) (w := w) (base := base) B T1.F)
  have G2 := T2.df X G b2 (ok_from T2.F G1)
  have G3 := T3.df X G b3 (ok_amount T3.F G2 mb)
  have G4 := T4.df X G b4 (ok_isRow B T4.F G2 G3 ml)
  have G5 := T5.df X G b5 (ok_req T5.F G4)
  have G6 := T6.df X G b6 (ok_falling (P := l.prog) (w := w) (base := base) B T6.F)
  have G7 := T7.df X G b7 (ok_nestedIn (P := l.prog) (w := w) (base := base) (k := 0) B T7.F)
  have G8 := T8.df X G b8 (ok_nestedRow T8.F G5 G6 G7)
  have G9 := T9.df X G b9 (nin_all (P := l.prog) (w := w) (base := base) T9.F b9 (PySem.W.mg_of X G T9.a) 16 (Nat.le_refl _))
  have G10 := T10.df X G b10 (ok_rows B T10.F G2 G1 G9 mp)
  have G11 := T11.df X G b11 (ok_vat (P := l.prog) (w := w) (base := base) (k := 0) B T11.F)
  have G12 := T12.df X G b12 (ok_dip (P := l.prog) (w := w) (base := base) B T12.F)
  have G13 := T13.df X G b13 (ok_pick B T13.F G12)
  have G14 := T14.df X G b14 (ok_mixed B T14.F G12)
  have G15 := T15.df X G b15 (ok_words (P := l.prog) (w := w) (base := base) (k := 0) B T15.F)
  have G16 := T16.df X G b16 (ok_rowOf (P := l.prog) (w := w) (base := base) (k := 0) B T16.F)
  have D7 : Ds l.prog w K mg base := ⟨⟨_, _, G12⟩, ⟨_, _, G15⟩, ⟨_, _, G16⟩, ⟨_, _, G10⟩, ⟨_, _, G8⟩, ⟨_, _, G14⟩, ⟨_, _, G13⟩⟩
  have G17 := T17.df X G b17 (ok_right B T17.F D7)
  exact ok_law B T18.F G11 G17 G10
/-- the end: what the top has left, the loose names among it, then the law's promise -/
theorem walk {l : PySem.W.OpenLaw} {q : Program} {loose : List Str} {XP : (Str → Option Value) → Heap → Prop} {YP : World → Heap → Prop} {d : DefRec} {K : Params → PySem.W.Frag} (hn : l.most = some 63) (hdf : d.params.defaults = [])
    (hY : ∀ (w : World) (h : Heap), YP w h → (K w.params).In h)
    (F : ∀ (w : World) (mg : Str → Option Value) (fa : Addr) (h : Heap), (K w.params).In h → h.Ns mainGlobals mg → XP mg h → mg d.name = some (.ref fa) →
      ∃ fd : FuncData, (∀ (s : Shared) (u : Value), BindsTo s fd ⟨[u], []⟩ [("_law_script", u)]) ∧ ∀ base : Heap, (K w.params).In base → base.Ns mainGlobals mg → FnOk l.prog w (K w.params) mg base CX0 19 fa fd ["_law_script"] (spLaw (K w.params))) :
    PySem.W.WalkO q loose XP YP l.row.toRowW d [] (fun f vs => PySem.call f vs) := by
  refine Att.attach_call hn hdf fun w s0 s1 mg mb fa o pm cd doc a vs ns G Y ho hd hcd hmg hobj hints hlen hg => ?_
  have KX := hY w _ Y
  obtain ⟨fd, hb, hF⟩ := F w mg fa _ KX G.T.g G.X hmg
  have few : ns.length ≤ sizeLine := Nat.le_trans hlen (by decide)
  refine law_call (CX := CX0) KX G.T.g G.T.b G.T.builtins G.T.nolimit hg hobj hints few (k := 19) ⟨rfl, by decide, by decide⟩ hF hb (fun H hO hS => ?_) fun H e s' z => z.elim
  exact ⟨a, ns, rfl, hS, hlen, fun _ => rfl⟩
theorem loose_int {p : Program} {x : Str} {n : Int} {mg : Str → Option Value} {h : Heap} (z : PySem.W.XL p [(x, .int n)] mg h) : ∃ t, mg x = some (.int n t) := by
  obtain ⟨v, e, r⟩ := z.2.val (x, .int n) List.mem_cons_self
  cases r
  exact ⟨_, e⟩
end Kq
open PySem PySem.W PyProof.Rows
set_option maxRecDepth 100000 in
set_option maxHeartbeats 0 in
theorem PySem.Challenge.cw_sumsalone_k31_whole_nested_rows_listed_holds : PySem.Challenge.rw_sumsalone_k31_whole_nested_rows_listed.Holds := by
  w_on; o_law; k_head; (case hw => w_witness2)
  k_fill
  refine Kq.walk (l := PySem.Challenge.rw_sumsalone_k31_whole_nested_rows_listed) rfl rfl (fun w h Y => PySem.W.kIn_of Y) ?F
  case F =>
    intro w mg fa h KX G hX hmg
    obtain ⟨tn, mb⟩ := Kq.loose_int hX
    refine' Kq.all_mk KX G hmg mb (Kq.at_mk ?a1 ?l1 ?c1 ?k1) (Kq.at_mk ?a2 ?l2 ?c2 ?k2) (Kq.at_mk ?a3 ?l3 ?c3 ?k3) (Kq.at_mk ?a4 ?l4 ?c4 ?k4) (Kq.at_mk ?a5 ?l5 ?c5 ?k5) (Kq.at_mk ?a6 ?l6 ?c6 ?k6) (Kq.at_mk ?a7 ?l7 ?c7 ?k7) (Kq.at_mk ?a8 ?l8 ?c8 ?k8) (Kq.at_mk ?a9 ?l9 ?c9 ?k9) (Kq.at_mk ?a10 ?l10 ?c10 ?k10) (Kq.at_mk ?a11 ?l11 ?c11 ?k11) (Kq.at_mk ?a12 ?l12 ?c12 ?k12) (Kq.at_mk ?a13 ?l13 ?c13 ?k13) (Kq.at_mk ?a14 ?l14 ?c14 ?k14) (Kq.at_mk ?a15 ?l15 ?c15 ?k15) (Kq.at_mk ?a16 ?l16 ?c16 ?k16) (Kq.at_mk ?a17 ?l17 ?c17 ?k17) (Kq.at_mk ?a18 ?l18 ?c18 ?k18) ?cl ?cp ?z_len ?z_isi ?z_int ?z_bool ?z_tup ?z_all ?z_sorted ?z_enum ?z_abs ?z_max ?z_min ?z_range ?z_sum ?z_list ?z_set
    (case a1 => k_is); (case l1 => k_is); (case c1 => k_is); (case k1 => k_is)
    (case a2 => k_is); (case l2 => k_is); (case c2 => k_is); (case k2 => k_is)
    (case a3 => k_is); (case l3 => k_is); (case c3 => k_is); (case k3 => k_is)
    (case a4 => k_is); (case l4 => k_is); (case c4 => k_is); (case k4 => k_is)
    (case a5 => k_is); (case l5 => k_is); (case c5 => k_is); (case k5 => k_is)
    (case a6 => k_is); (case l6 => k_is); (case c6 => k_is); (case k6 => k_is)
    (case a7 => k_is); (case l7 => k_is); (case c7 => k_is); (case k7 => k_is)
    (case a8 => k_is); (case l8 => k_is); (case c8 => k_is); (case k8 => k_is)
    (case a9 => k_is); (case l9 => k_is); (case c9 => k_is); (case k9 => k_is)
    (case a10 => k_is); (case l10 => k_is); (case c10 => k_is); (case k10 => k_is)
    (case a11 => k_is); (case l11 => k_is); (case c11 => k_is); (case k11 => k_is)
    (case a12 => k_is); (case l12 => k_is); (case c12 => k_is); (case k12 => k_is)
    (case a13 => k_is); (case l13 => k_is); (case c13 => k_is); (case k13 => k_is)
    (case a14 => k_is); (case l14 => k_is); (case c14 => k_is); (case k14 => k_is)
    (case a15 => k_is); (case l15 => k_is); (case c15 => k_is); (case k15 => k_is)
    (case a16 => k_is); (case l16 => k_is); (case c16 => k_is); (case k16 => k_is)
    (case a17 => k_is); (case l17 => k_is); (case c17 => k_is); (case k17 => k_is)
    (case a18 => k_is); (case l18 => k_is); (case c18 => k_is); (case k18 => k_is)
    (case cl => k_is); (case cp => k_is)
    (case z_len => k_is)
    (case z_isi => k_is)
    (case z_int => k_is)
    (case z_bool => k_is)
    (case z_tup => k_is)
    (case z_all => k_is)
    (case z_sorted => k_is)
    (case z_enum => k_is)
    (case z_abs => k_is)
    (case z_max => k_is)
    (case z_min => k_is)
    (case z_range => k_is)
    (case z_sum => k_is)
    (case z_list => k_is)
    (case z_set => k_is)
