import PyProof.Rows.All
import HandS.TupMul
import HandS.SortInts
import HandS.More
import PyProof.WalksMore
import PyProof.SumWalkG
import PyProof.WalkInts
import PyProof.P3Statements
import PyProof.EqLayable
import HandS.Base
import HandS.Call
import HandS.List
import HandS.Comp
import HandS.Iter
import HandS.Walk
import HandS.IsInst
import HandS.CallLocal
import HandS.Gcd
import HandS.Zip
import HandS.Style
import HandS.TupAny
import HandS.Wide
import HandS.Words
import HandS.WordsExc
import HandS.Defaults
import KE.GoesEnum
import KE.GoesMore
import HandS.Conv
import HandS.Codes
import HandS.Head0
import HandS.Head1
import HandS.Head2
import HandS.Head3
import HandS.HeadEnd
import HandS.HeadHook1
import HandS.HeadHook2
import KE.KStateDown
import PySem.Challenge.RW_levelruns_k77_whole_reaches_by_caps
set_option Elab.async false
set_option linter.all false
set_option autoImplicit false
section Part_Lw
set_option maxRecDepth 100000
set_option maxHeartbeats 4000000
/-! Lw: rules of the machine that the hand layer lacks: tuple * 1, sum, max, min, sorted of tuples. -/
namespace L2
open PySem PySem.Spec PyProof.Rows
theorem tuple_mul1 (l : Addr) (items : Array Value) (n : Nat) (dd : Option Addr) (sl : Array (Option Value)) (u : Tok) (hne : items.isEmpty = false) :
    Meets (Builtin.«tuple.__mul__» ⟨[.ref l, .int 1 u], []⟩) (fun _ R s => s.heap.get? l = some { cls := .type "tuple", dict := dd, data := .seq items n, slots := sl } ∧ R (.ok (.ret (Value.ref l))) s) :=
  .of_wp fun prog w A R s h => by
    obtain ⟨hp, g, d, tk, os⟩ := s
    obtain ⟨hl, h⟩ := h
    have f1 := AutoSeq1.idx_int
    wp_walk using wpAny_loadPart' hl
    exact ⟨_, rfl, h⟩
def rRepT1 (K : PySem.W.Frag) : R2 := fun x y H Q => ∃ l xs, x = .ref l ∧ y = .int 1 ∧ SqT K H l xs ∧ xs ≠ [] ∧ Q (.ref l) H
section
variable {X : Cx}
theorem op_repT1 : OpR X (binaryOp .Mult) (rRepT1 X.K) := by
  intro pins s σ H x y v u Q I rx ry h
  obtain ⟨l, xs, rfl, rfl, hT, hne, q⟩ := h
  cases rx
  obtain ⟨t, rfl⟩ := ry
  obtain ⟨its, r, ⟨⟨cls, dd, data, sl⟩, ho, hc, n, hd⟩, hs⟩ := I.tuple hT
  simp only at hc hd
  subst hc hd
  have hle : its.length = xs.length := r.length.symm
  have hn : its ≠ [] := fun e => hne (by
    rw [e] at hle
    exact List.eq_nil_of_length_eq_zero hle.symm)
  have hi : its.toArray.isEmpty = false := by
    cases its with
    | nil => exact absurd rfl hn
    | cons a b => rfl
  exact wpAny_binaryOp_repeat_ref (T := "tuple") (U := "int") (by decide) ⟨_, ho, rfl⟩ (fun s' => typeIs_int s' 1 t) noFill_tuple_mul F.fills_int_mul F.slot_int_rmul repeat_tuple F.slot_int_index.lookup
    (call_meets F.slot_int_rmul (typeIs_int s 1 t) F.entry_int_rmul (F.args_int_rmul_2 _ _) (int_rmul_tuple 1 t l its.toArray n dd sl)
      ⟨ho, rfl, ⟨_, ho, rfl⟩, call_meets F.slot_tuple_mul ⟨_, ho, rfl⟩ F.entry_tuple_mul (F.args_tuple_mul_2 _ _) (tuple_mul1 l its.toArray n dd sl t hi) ⟨ho, ⟨.ref l, H, I, rfl, q⟩⟩⟩)
end
section
variable {prog : Program} {w : World} {A : Around} {E : Value → Shared → Prop} {s : Shared} {l : Addr} {xs : Array (Int × Tok)}
theorem iter_intTup {Q : Value → Shared → Prop} (hl : s.heap.IsTuple l (intItems xs))
    (h : ∀ s₂ : Shared, s₂ = { s with heap := s.heap.push { cls := .type "tuple_iterator", data := .fields #[.ref l, .int 0 0] } } →
      (s₂.heap.IsTupleIter s.heap.objs.size l 0 ∧ s₂.heap.IsTuple l (intItems xs)) → (∀ b ∈ [s.heap.objs.size, l], b < s₂.heap.objs.size) → l ≠ s.heap.objs.size → Q (.ref s.heap.objs.size) s₂) :
    wpAny (model prog w) A (pyIter (.ref l)) Q E s := by
  have hlt : l < s.heap.objs.size := by obtain ⟨_, e, _⟩ := hl; exact Heap.lt_size e
  refine wpAny_pyIter_tuple hl (h _ rfl ⟨⟨_, Heap.get?_push_size _ rfl, rfl, rfl⟩, hl.at fun o e => Heap.get?_push_of_some _ e⟩ (fun b hb => ?_) (Nat.ne_of_lt hlt))
  show b < (s.heap.push _).objs.size
  rw [Heap.size_push]
  rcases List.mem_cons.mp hb with rfl | hb
  · exact Nat.lt_succ_self _
  · rcases List.mem_cons.mp hb with rfl | hb
    · exact Nat.lt_succ_of_lt hlt
    · cases hb
theorem old_keptT {h' : Heap} {l2 : Addr} (hk : ∀ b o, b ∉ [s.heap.objs.size] → (s.heap.push { cls := .type "tuple_iterator", data := .fields #[.ref l2, .int 0 0] }).get? b = some o → h'.get? b = some o) :
    ∀ b o, s.heap.get? b = some o → h'.get? b = some o := fun b o e => hk b o (fun hm => by
  rcases List.mem_cons.mp hm with e1 | hm
  · exact absurd (e1 ▸ Heap.lt_size e) (Nat.lt_irrefl _)
  · cases hm) (Heap.get?_push_of_some _ e)
theorem sum_intTupG {Q : Value → Shared → Prop} (hh : A.handled = none) (hl : s.heap.IsTuple l (intItems xs))
    (h : ∀ h' tk t', (∀ b o, s.heap.get? b = some o → h'.get? b = some o) → Q (.int (preSum (numAt xs) xs.size) t') { s with heap := h', toks := tk }) :
    wpAny (model prog w) A (call (.builtin "sum") [.ref l]) Q E s := by
  refine call_sum_walkG (iter_intTup hl fun s₂ e st hfp hlI => ?_)
  subst e
  refine ⟨_, _, _, _, _, _, numAt xs, rfl, Walks.tuple (A := A.in1) hh _ l hlI (intItems xs), st, hfp, (fun _ _ => intItems_at), fun h' tk t' hk => ?_⟩
  have := h h' tk t' (old_keptT hk)
  simpa [intItems] using this
theorem max_intTup {Q : Value → Shared → Prop} (hh : A.handled = none) (hl : s.heap.IsTuple l (intItems xs)) (hne : 0 < xs.size)
    (h : ∀ v h' tk, (intItems xs)[argBest (fun i j => decide (numAt xs i > numAt xs j)) (xs.size - 1)]? = some v → (∀ b o, s.heap.get? b = some o → h'.get? b = some o) → Q v { s with heap := h', toks := tk }) :
    wpAny (model prog w) A (call (.builtin "max") [.ref l]) Q E s := by
  refine call_max_walk (iter_intTup hl fun s₂ e st hfp hlI => ?_)
  subst e
  refine ⟨_, _, _, _, _, _, _, rfl, Walks.tuple (A := A.in1) hh _ l hlI (intItems xs), st, hfp, by simpa [intItems] using hne, CmpOf.ints_gt (numAt xs) (fun _ _ => intItems_at), fun v h' tk hP hk => ?_⟩
  exact h v h' tk (by simpa [intItems] using hP) (old_keptT hk)
theorem min_intTup {Q : Value → Shared → Prop} (hh : A.handled = none) (hl : s.heap.IsTuple l (intItems xs)) (hne : 0 < xs.size)
    (h : ∀ v h' tk, (intItems xs)[argBest (fun i j => decide (numAt xs i < numAt xs j)) (xs.size - 1)]? = some v → (∀ b o, s.heap.get? b = some o → h'.get? b = some o) → Q v { s with heap := h', toks := tk }) :
    wpAny (model prog w) A (call (.builtin "min") [.ref l]) Q E s := by
  refine call_min_walk (iter_intTup hl fun s₂ e st hfp hlI => ?_)
  subst e
  refine ⟨_, _, _, _, _, _, _, rfl, Walks.tuple (A := A.in1) hh _ l hlI (intItems xs), st, hfp, by simpa [intItems] using hne, CmpOf.ints_lt (numAt xs) (fun _ _ => intItems_at), fun v h' tk hP hk => ?_⟩
  exact h v h' tk (by simpa [intItems] using hP) (old_keptT hk)
theorem sum_rawT {its : List Value} {ns : List Int} {Q : Value → Shared → Prop} (hh : A.handled = none) (hl : s.heap.IsTuple l its.toArray) (hi : IntsAre its ns)
    (h : ∀ h' tk t', (∀ b o, s.heap.get? b = some o → h'.get? b = some o) → Q (.int ns.sum t') { s with heap := h', toks := tk }) : wpAny (model prog w) A (call (.builtin "sum") [.ref l]) Q E s := by
  obtain ⟨xs, e⟩ := hi.allInts.items
  have hn : numsOf (intItems xs).toList = ns := by rw [← e]; exact hi.numsOf
  rw [nums_intItems] at hn
  rw [e] at hl
  refine sum_intTupG hh hl fun h' tk t' hk => ?_
  have := h h' tk t' hk
  rw [preSum_eq, List.take_of_length_le (by simp), hn]; exact this
theorem max_rawT {its : List Value} {ns : List Int} {Q : Value → Shared → Prop} (hh : A.handled = none) (hl : s.heap.IsTuple l its.toArray) (hi : IntsAre its ns) (hne : 0 < ns.length)
    (h : ∀ h' tk M t', (∀ b o, s.heap.get? b = some o → h'.get? b = some o) → M ∈ ns → (∀ a, a ∈ ns → a ≤ M) → Q (.int M t') { s with heap := h', toks := tk }) : wpAny (model prog w) A (call (.builtin "max") [.ref l]) Q E s := by
  obtain ⟨xs, e⟩ := hi.allInts.items
  have hn : numsOf (intItems xs).toList = ns := by rw [← e]; exact hi.numsOf
  rw [nums_intItems] at hn
  subst hn
  rw [e] at hl
  have hsz : 0 < xs.size := by simpa using hne
  refine max_intTup hh hl hsz fun v h' tk hv hk => ?_
  obtain ⟨t, rfl⟩ := intItems_at hv
  obtain ⟨h1, h2⟩ := argBest_gt (numAt xs) (xs.size - 1)
  refine h h' tk _ t hk ?_ fun a ha => ?_
  · rw [numAt_eq]; exact PySem.getD_mem (by rw [List.length_map, Array.length_toList]; omega)
  · obtain ⟨j, hj, rfl⟩ := mem_getD ha
    rw [List.length_map, Array.length_toList] at hj
    rw [← numAt_eq]; exact h2 j (by omega)
theorem min_rawT {its : List Value} {ns : List Int} {Q : Value → Shared → Prop} (hh : A.handled = none) (hl : s.heap.IsTuple l its.toArray) (hi : IntsAre its ns) (hne : 0 < ns.length)
    (h : ∀ h' tk M t', (∀ b o, s.heap.get? b = some o → h'.get? b = some o) → M ∈ ns → (∀ a, a ∈ ns → M ≤ a) → Q (.int M t') { s with heap := h', toks := tk }) : wpAny (model prog w) A (call (.builtin "min") [.ref l]) Q E s := by
  obtain ⟨xs, e⟩ := hi.allInts.items
  have hn : numsOf (intItems xs).toList = ns := by rw [← e]; exact hi.numsOf
  rw [nums_intItems] at hn
  subst hn
  rw [e] at hl
  have hsz : 0 < xs.size := by simpa using hne
  refine min_intTup hh hl hsz fun v h' tk hv hk => ?_
  obtain ⟨t, rfl⟩ := intItems_at hv
  obtain ⟨h1, h2⟩ := argBest_lt (numAt xs) (xs.size - 1)
  refine h h' tk _ t hk ?_ fun a ha => ?_
  · rw [numAt_eq]; exact PySem.getD_mem (by rw [List.length_map, Array.length_toList]; omega)
  · obtain ⟨j, hj, rfl⟩ := mem_getD ha
    rw [List.length_map, Array.length_toList] at hj
    rw [← numAt_eq]; exact h2 j (by omega)
theorem collect_tuple {vs : List Value} {Q : List Value → Shared → Prop} (hl : s.heap.IsTuple l vs.toArray)
    (h : Q vs { s with heap := (s.heap.push (seqObj "list" #[] 0)).update s.heap.objs.size (Obj.mapSeq (· ++ vs.toArray)) }) (hsz : vs.length ≤ sizeLine) :
    wpAny (model prog w) A (collect (.ref l)) Q E s := by
  obtain ⟨o, ho, hc, n, hd⟩ := id hl
  unfold collect
  refine wpAny_bind (wpAny_runValue (codeAny_builtin entry_proto_collect' ?_))
  show wpAny _ _ (do again (.builtin "list.__iadd__" ⟨[← newList [], .ref l], []⟩)) _ _ s
  refine wpAny_bind (wpAny_newList (wpAny_pure ⟨Code.quiet_builtin _ (by decide +kernel), codeAny_builtin entry_list_iadd' ?_⟩))
  show wpAny _ _ (Builtin.List.listExtendWith (.ref s.heap.objs.size) (.ref l) (.ref s.heap.objs.size)) _ _ { s with heap := s.heap.push (seqObj "list" #[] 0) }
  unfold Builtin.List.listExtendWith
  have ho' : (s.heap.push (seqObj "list" #[] 0)).get? l = some o := Heap.get?_push_of_some _ ho
  refine wpAny_bind (wpAny_typeOf (T := "tuple") ⟨o, ho', hc⟩ ?_)
  have ht : (Value.type "tuple" == Value.type "tuple") = true := by rfl
  rw [if_pos (by rw [ht]; simp)]
  refine wpAny_bind (listItems_at ho' hd ?_)
  refine wpAny_bind (listItems_at (xs := #[]) (n := 0) (Heap.get?_push_size _ rfl) rfl ?_)
  rw [if_neg (by simp)]
  refine wpAny_bind (listUpdate_at (xs := #[]) (n := 0) (Heap.get?_push_size _ rfl) rfl ?_ (Nat.zero_le _) (by show (#[] ++ vs.toArray).size ≤ sizeLine + 1; simp only [Array.size_append, List.size_toArray, List.length_nil]; omega))
  refine wpAny_pure ?_
  show wpAny (model prog w) A (do
      let o ← load s.heap.objs.size
      match o.data with
      | .seq xs _ => pure xs.toList
      | _ => unsupported "internal:collect") Q E { s with heap := (s.heap.push (seqObj "list" #[] 0)).update s.heap.objs.size (Obj.mapSeq (· ++ vs.toArray)) }
  refine wpAny_bind (wpAny_load (get?_update_seq (Heap.get?_push_size _ rfl) _) ?_)
  show wpAny _ _ (pure ((#[] : Array Value) ++ vs.toArray).toList) Q E _
  rw [show ((#[] : Array Value) ++ vs.toArray).toList = vs by simp]
  exact wpAny_pure h
theorem sorted_intsT {vs : List Value} {ns : List Int} {Q : Value → Shared → Prop} (hl : s.heap.IsTuple l vs.toArray) (hI : IntsAre vs ns) (h64 : vs.length < 64)
    (h : ∀ (out : Array Value) (ns' : List Int), IntsAre out.toList ns' → ns'.Perm ns → ns'.Pairwise (· ≤ ·) → Q (.ref (s.heap.objs.size + 1)) { s with heap := sortedAll s.heap vs out }) :
    wpAny (model prog w) A (call (.builtin "sorted") [.ref l]) Q E s := by
  refine Calls.call_function_entry kind_sorted plain_sorted entry_sorted (args_sorted1 _) ?_
  unfold Builtin.«sorted»
  refine wpAny_bind (m := checkCount "sorted" 1 1 _) (wpAny_pure ?_)
  refine wpAny_bind (collect_tuple hl ?_ (by rw [sizeLine_eq]; omega))
  refine wpAny_bind (wpAny_newList ?_)
  have hsz : ((s.heap.push (seqObj "list" #[] 0)).update s.heap.objs.size (Obj.mapSeq (· ++ vs.toArray))).objs.size = s.heap.objs.size + 1 := by
    rw [Heap.size_update, size_push']
  have hoL : (((s.heap.push (seqObj "list" #[] 0)).update s.heap.objs.size (Obj.mapSeq (· ++ vs.toArray))).push (seqObj "list" vs.toArray 0)).get? (s.heap.objs.size + 1) = some (seqObj "list" vs.toArray 0) := by
    rw [← hsz]; exact Heap.get?_push_size _ rfl
  show wpAny _ _ _ _ _ { s with heap := ((s.heap.push (seqObj "list" #[] 0)).update s.heap.objs.size (Obj.mapSeq (· ++ vs.toArray))).push (seqObj "list" vs.toArray 0) }
  rw [hsz]
  refine wpAny_bind (wpAny_holding (wpAny_call_entry slot_list_sort ⟨_, hoL, rfl⟩ entry_list_sort (list_sort_tree hoL hI h64 fun out ns' a1 a2 a3 => ⟨_, rfl, ?_⟩) (args_list_sort _)))
  exact wpAny_pure ⟨_, rfl, h out ns' a1 a2 a3⟩
end
section
variable {X : Cx}
def rSumT (K : PySem.W.Frag) : List V → Hp → VK → Prop := fun vs H Q => ∃ (a : Addr) (ns : List Int), vs = [V.ref a] ∧ SqT K H a (ns.map V.int) ∧ Q (.int ns.sum) H
def rMaxT (K : PySem.W.Frag) : List V → Hp → VK → Prop := fun vs H Q => ∃ (a : Addr) (ns : List Int), vs = [V.ref a] ∧ SqT K H a (ns.map V.int) ∧ 0 < ns.length ∧ ∀ m, m ∈ ns → (∀ y, y ∈ ns → y ≤ m) → Q (.int m) H
def rMinT (K : PySem.W.Frag) : List V → Hp → VK → Prop := fun vs H Q => ∃ (a : Addr) (ns : List Int), vs = [V.ref a] ∧ SqT K H a (ns.map V.int) ∧ 0 < ns.length ∧ ∀ m, m ∈ ns → (∀ y, y ∈ ns → m ≤ y) → Q (.int m) H
def rSortT (K : PySem.W.Frag) : List V → Hp → VK → Prop := fun vs H Q => ∃ (a : Addr) (ns : List Int), vs = [V.ref a] ∧ SqT K H a (ns.map V.int) ∧ ns.length < 64 ∧
  ∀ (ns' : List Int) (p : Addr), ns'.Perm ns → ns'.Pairwise (· ≤ ·) → H p = none → Q (.ref p) (upd H p (.lst (ns'.map V.int)))
theorem cr_sumT (hc : X.calm = true) : CallR X (.builtin "sum") (rSumT X.K) := by
  intro pins s σ H vs us Q I r h
  obtain ⟨a, ns, rfl, hs, q⟩ := h
  obtain ⟨its, rv, hl, _⟩ := I.tuple hs
  rw [Vals.ref1 r]
  exact sum_rawT (I.ok.hd hc) hl rv.ints fun h' tk t' hk => ⟨.int _, H, I.kept hk, ⟨_, rfl⟩, q⟩
theorem cr_maxT (hc : X.calm = true) : CallR X (.builtin "max") (rMaxT X.K) := by
  intro pins s σ H vs us Q I r h
  obtain ⟨a, ns, rfl, hs, hne, q⟩ := h
  obtain ⟨its, rv, hl, _⟩ := I.tuple hs
  rw [Vals.ref1 r]
  exact max_rawT (I.ok.hd hc) hl rv.ints hne fun h' tk m t' hk h1 h2 => ⟨.int _, H, I.kept hk, ⟨_, rfl⟩, q m h1 h2⟩
theorem cr_minT (hc : X.calm = true) : CallR X (.builtin "min") (rMinT X.K) := by
  intro pins s σ H vs us Q I r h
  obtain ⟨a, ns, rfl, hs, hne, q⟩ := h
  obtain ⟨its, rv, hl, _⟩ := I.tuple hs
  rw [Vals.ref1 r]
  exact min_rawT (I.ok.hd hc) hl rv.ints hne fun h' tk m t' hk h1 h2 => ⟨.int _, H, I.kept hk, ⟨_, rfl⟩, q m h1 h2⟩
theorem cr_sortT : CallR X (.builtin "sorted") (L2.rSortT X.K) := by
  intro pins s σ H vs us Q I r h
  obtain ⟨a, ns, rfl, hs, h64, q⟩ := h
  obtain ⟨its, rv, hl, _⟩ := I.tuple hs
  rw [Vals.ref1 r]
  have hi := rv.ints
  refine sorted_intsT hl hi (by rw [hi.length]; exact h64) fun out ns' h1 h2 h3 => ?_
  obtain ⟨ep, he'⟩ := PyProof.Rows.sortedAll_at s.heap its out
  have hlen : (ns'.map V.int).length ≤ sizeLine := by rw [List.length_map, h2.length_eq]; exact small64 h64
  exact ⟨.ref _, upd H (s.heap.objs.size + 1) (.lst (ns'.map V.int)), I.laid (t' := s.toks) (fun _ _ => PyProof.Rows.sortedAll_old) (Nat.le_succ _) ⟨hlen, out.toList, ep, vals_of_ints h1, he'⟩, rfl, q ns' _ h2 h3 (I.hok.fresh (Nat.le_succ _))⟩
end
end L2

end Part_Lw

section Part_Lev0

/-! Lev0: a small language of its own for the linked programs: data, syntax, meaning. No program in sight. -/
namespace Lv
open PySem

/-! ### data -/
inductive D where
  | non | bl (b : Bool) | int (i : Int) | str (s : Str)
  | tup (ds : List D) | lst (ds : List D)
  | cell (i : Nat) | fn (i : Nat)
  | scr (ns : List Int)
instance : Inhabited D := ⟨.non⟩

mutual
def toPy : D → Option PyData
  | .non => some .none
  | .bl b => some (.bool b)
  | .int i => some (.int i)
  | .str s => some (.str s)
  | .tup ds => match toPys ds with | some xs => some (.tuple xs) | none => none
  | .lst ds => match toPys ds with | some xs => some (.list xs) | none => none
  | .cell _ => none
  | .fn _ => none
  | .scr _ => none
def toPys : List D → Option (List PyData)
  | [] => some []
  | d :: ds => match toPy d, toPys ds with | some x, some xs => some (x :: xs) | _, _ => none
end

/-- the state: what stands in the shared lists -/
abbrev U := List (List D)
inductive Res (α : Type) where
  | ok (a : α) (u : U)
  | exc (c : Nat) (a : D) (u : U)
  | bad
abbrev M (α : Type) := U → Res α
@[reducible] def ret {α : Type} (a : α) : M α := fun u => .ok a u
def Res.bind {α β : Type} (r : Res α) (f : α → M β) : Res β := match r with
  | .ok a u => f a u
  | .exc c a u => .exc c a u
  | .bad => .bad
def M.bind {α β : Type} (m : M α) (f : α → M β) : M β := fun u => (m u).bind f
def stuck {α : Type} : M α := fun _ => .bad
def lift {α : Type} : Option α → M α
  | some a => ret a
  | none => stuck
instance : Monad M where
  pure := ret
  bind := M.bind

inductive Sl where
  | no | val (d : D) | own (ds : List D)
instance : Inhabited Sl := ⟨.no⟩
abbrev Env := List Sl

/-! ### operations on data -/
def line : Nat := 16777216
def eqD (a b : D) : Option Bool := match toPy a, toPy b with
  | some p, some q => if SeqAt.shaped p && SeqAt.shaped q then some (PyData.eqv p q) else none
  | _, _ => none
def mulOk (i j : Int) : Bool := decide (i.natAbs.log2 + j.natAbs.log2 < 1000000)
def addD : D → D → Option D
  | .int i, .int j => some (.int (i + j))
  | .tup a, .tup b => if a.length + b.length ≤ line then some (.tup (a ++ b)) else none
  | .str a, .str b => if a.length + b.length ≤ line then some (.str (a ++ b)) else none
  | _, _ => none
def subD : D → D → Option D
  | .int i, .int j => some (.int (i - j))
  | _, _ => none
def mulD : D → D → Option D
  | .int i, .int j => if mulOk i j then some (.int (i * j)) else none
  | .tup a, .int n => if 1 ≤ n ∧ n ≤ 1000 ∧ a.length ≤ 1000 ∧ 0 < a.length then some (.tup (List.replicate n.toNat a).flatten) else none
  | _, _ => none
def fdivD : D → D → Option D
  | .int i, .int j => if 0 < j ∧ j.natAbs.log2 < 9000 then some (.int (i / j)) else if j < 0 ∧ j.natAbs < 1073741824 then some (.int (i.fdiv j)) else none
  | _, _ => none
def modD : D → D → Option D
  | .int i, .int j => if 0 < j then some (.int (i % j)) else none
  | _, _ => none
def powD : D → D → Option D
  | .int i, .int j => if 0 ≤ j ∧ j ≤ 1000000 ∧ i.natAbs < 2 ^ 64 then some (.int (i ^ j.toNat)) else none
  | _, _ => none
inductive BinO where
  | add | sub | mul | fdiv | mod | pow
  deriving DecidableEq
def BinO.run : BinO → D → D → Option D
  | .add => addD | .sub => subD | .mul => mulD | .fdiv => fdivD | .mod => modD | .pow => powD
inductive CmpO where
  | lt | le | gt | ge | eq | ne | is_ | isnot | in_ | notin
  deriving DecidableEq
def isNone : D → Bool
  | .non => true
  | _ => false
def isD : D → D → Option Bool
  | .non, .non => some true
  | .bl a, .bl b => some (a == b)
  | .int _, .non | .str _, .non | .tup _, .non | .lst _, .non | .bl _, .non => some false
  | .int _, .bl _ | .str _, .bl _ | .tup _, .bl _ | .lst _, .bl _ | .non, .bl _ => some false
  | _, _ => none
def intsOf : List D → Option (List Int)
  | [] => some []
  | .int i :: r => match intsOf r with | some l => some (i :: l) | none => none
  | _ :: _ => none
def blsOf : List D → Option (List Bool)
  | [] => some []
  | .bl i :: r => match blsOf r with | some l => some (i :: l) | none => none
  | _ :: _ => none
def flatD : D → Bool
  | .non | .bl _ | .int _ | .str _ => true
  | _ => false
def eqFlat : D → D → Bool
  | .non, .non => true
  | .bl a, .bl b => a == b
  | .bl a, .int b => (if a then 1 else 0) == b
  | .int a, .bl b => a == (if b then 1 else 0)
  | .int a, .int b => a == b
  | .str a, .str b => a == b
  | _, _ => false
def inD (x : D) (y : D) : Option Bool := match y with
  | .tup ds | .lst ds => if flatD x && ds.all flatD then some (ds.any fun y => eqFlat y x) else none
  | _ => none
def intCmp (f : Int → Int → Bool) : D → D → Option Bool
  | .int i, .int j => some (f i j)
  | _, _ => none
def CmpO.run : CmpO → D → D → Option Bool
  | .lt => intCmp fun i j => decide (i < j)
  | .le => intCmp fun i j => decide (i ≤ j)
  | .gt => intCmp fun i j => decide (j < i)
  | .ge => intCmp fun i j => decide (j ≤ i)
  | .eq => eqD
  | .ne => fun a b => match eqD a b with | some c => some (!c) | none => none
  | .is_ => isD
  | .isnot => fun a b => match isD a b with | some c => some (!c) | none => none
  | .in_ => inD
  | .notin => fun a b => match inD a b with | some c => some (!c) | none => none
/-- what may be read by place: a list, a tuple, a shared list -/
def seqOf (u : U) : D → Option (List D)
  | .tup ds | .lst ds => some ds
  | .cell i => u[i]?
  | .scr ns => some (ns.map D.int)
  | _ => none
/-- a list as its items -/
def lstOf : D → Option (List D)
  | .lst ds => some ds
  | .scr ns => some (ns.map D.int)
  | _ => none
def itsOf : D → Option (List D)
  | .lst ds | .tup ds => some ds
  | .scr ns => some (ns.map D.int)
  | _ => none
def ixN (n : Nat) (i : Int) : Option Nat := if 0 ≤ i then (if i < n then some i.toNat else none) else if -(n : Int) ≤ i then some (i + n).toNat else none
def atI {α : Type} (xs : List α) (i : Int) : Option α := (ixN xs.length i).bind fun j => xs[j]?
def idxD (u : U) (a i : D) : Option D := match seqOf u a, i with
  | some ds, .int k => atI ds k
  | _, _ => none
def sIx (n d : Nat) : Option Int → Nat
  | none => d
  | some v => if v < 0 then (v + (n : Int)).toNat else min v.toNat n
def cut {α : Type} (xs : List α) (lo hi : Option Int) : List α := (xs.drop (sIx xs.length 0 lo)).take (sIx xs.length xs.length hi - sIx xs.length 0 lo)
/-- a bound of a cut -/
def bndD : D → Option (Option Int)
  | .int i => some (some i)
  | _ => none
inductive Bi where
  | len | sum | max | min | max2 | min2 | abs | int | all | any | tuple | gcd | divmod
  deriving DecidableEq
def maxL : List Int → Int
  | [] => 0
  | [a] => a
  | a :: r => let m := maxL r; if a < m then m else a
def minL : List Int → Int
  | [] => 0
  | [a] => a
  | a :: r => let m := minL r; if m < a then m else a
def Bi.run (u : U) : Bi → List D → Option D
  | .len, [.lst ds] => some (.int ds.length)
  | .len, [.tup ds] => some (.int ds.length)
  | .len, [.scr ns] => some (.int ns.length)
  | .len, [.str s] => if s.length ≤ line then some (.int s.length) else none
  | .sum, [.tup ds] => match intsOf ds with | some ns => some (.int ns.sum) | none => none
  | .max, [.tup ds] => match intsOf ds with | some ns => if ns.isEmpty then none else some (.int (maxL ns)) | none => none
  | .min, [.tup ds] => match intsOf ds with | some ns => if ns.isEmpty then none else some (.int (minL ns)) | none => none
  | .sum, [.lst ds] => match intsOf ds with | some ns => some (.int ns.sum) | none => none
  | .max, [.lst ds] => match intsOf ds with | some ns => if ns.isEmpty then none else some (.int (maxL ns)) | none => none
  | .min, [.lst ds] => match intsOf ds with | some ns => if ns.isEmpty then none else some (.int (minL ns)) | none => none
  | .max2, [.int i, .int j] => some (.int (if j > i then j else i))
  | .min2, [.int i, .int j] => some (.int (if j < i then j else i))
  | .abs, [.int i] => some (.int (if i < 0 then -i else i))
  | .int, [.int i] => some (.int i)
  | .all, [.lst ds] => match blsOf ds with | some bs => some (.bl (bs.all id)) | none => none
  | .any, [.lst ds] => match blsOf ds with | some bs => some (.bl (bs.any id)) | none => none
  | .tuple, [.lst ds] => some (.tup ds)
  | .tuple, [.tup ds] => some (.tup ds)
  | .gcd, [.int i, .int j] => some (.int (Int.gcd i j))
  | .divmod, [.int i, .int j] => if 0 < j ∧ j < 1073741824 then some (.tup [.int (i / j), .int (i % j)]) else none
  | _, _ => none
inductive Ty where
  | int | bool | str | tuple | list | dict
  deriving DecidableEq
def isTy : Ty → D → Option Bool
  | _, .cell _ => none
  | _, .fn _ => none
  | _, .scr _ => none
  | .int, .int _ => some true
  | .int, .bl _ => some true
  | .bool, .bl _ => some true
  | .str, .str _ => some true
  | .tuple, .tup _ => some true
  | .list, .lst _ => some true
  | _, _ => some false
def isAny : List Ty → D → Option Bool
  | [], d => match isTy .int d with | some _ => some false | none => none
  | t :: ts, d => match isTy t d, isAny ts d with | some a, some b => some (a || b) | _, _ => none

/-! ### syntax -/
inductive Cst where
  | non | bl (b : Bool) | int (i : Int) | str (s : Str)
def Cst.d : Cst → D
  | .non => .non | .bl b => .bl b | .int i => .int i | .str s => .str s

mutual
/-- a target: a name's slot, some targets, a place of what stands in a slot -/
inductive Tg where
  | nm (i : Nat) | tp (ts : Tgs) | ix (i : Nat) (e : CE)
inductive Tgs where
  | nil | cons (t : Tg) (ts : Tgs)
inductive CE where
  | loc (i : Nat)
  | cst (c : Cst)
  | glb (j : Nat)
  | fnv (f : Nat)
  | bin (o : BinO) (a b : CE)
  | neg (a : CE)
  | notv (a : CE)
  | andv (es : CEs)
  | orv (es : CEs)
  | cmp (o : CmpO) (a b : Op)
  | cmp2 (o o2 : CmpO) (a b c : CE)
  | ite (c a b : CE)
  | tup (es : CEs)
  | newc (es : CEs)
  | idx (a : Op) (i : CE)
  | slT (a : Op) (lo hi : OpB)
  | revT (a : Op)
  | call (f : Nat) (es : CEs)
  | callK (f : Nat) (j : Nat) (es ks : CEs)
  | callL (i : Nat) (es : CEs)
  | bi (b : Bi) (es : Ops)
  | isi (a : CE) (ts : List Ty) (sole : Bool)
  | fr (f : FE)
/-- a bound of a cut -/
inductive OpB where
  | no | so (e : CE)
/-- an operand: a value, or an own list that is only read -/
inductive Op where
  | v (e : CE) | bor (i : Nat)
inductive Ops where
  | nil | cons (o : Op) (os : Ops)
inductive CEs where
  | nil | cons (e : CE) (es : CEs)
/-- what makes a list anew -/
inductive FE where
  | disp (es : CEs)
  | cat (a b : Op)
  | lc (elt : CE) (vs : List Nat) (tg : Tg) (it : It) (cs : CEs)
  | lst (o : Op)
  | lstR (it : It)
  | sorted (o : Op)
  | sl (a : Op) (lo hi : OpB)
  | rev (a : Op)
  | rep (a : Op) (n : CE)
/-- what is walked -/
inductive It where
  | seq (o : Op) | rng1 (a : CE) | rng2 (a b : CE) | enm (o : CE) (k : Option Int) | zip (a b : CE)
end

mutual
inductive CS where
  | asg (t : Tg) (e : CE)
  | own (i : Nat) (f : FE)
  | par (ps : Prs)
  | expr (e : CE)
  | app (i : Nat) (e : CE)
  | ext (i : Nat) (o : Op)
  | ins (i : Nat) (a e : CE)
  | ret (e : CE)
  | retN
  | ifs (c : CE) (a b : CSs)
  | for_ (t : Tg) (it : It) (b : CSs)
  | whl (c : CE) (b : CSs)
  | raise (c : Nat)
  | pass | brk | cnt
  | frz (i : Nat)
inductive CSs where
  | nil | cons (s : CS) (ss : CSs)
/-- targets and values side by side -/
inductive Prs where
  | nil | val (t : Tg) (e : CE) (r : Prs) | own (i : Nat) (f : FE) (r : Prs)
end

/-! ### loops -/
def lcRun (body : D → M (Option D)) : List D → M (List D)
  | [] => ret []
  | d :: ds => fun u => (body d u).bind fun x u1 => (lcRun body ds u1).bind fun r u2 => .ok (match x with | some y => y :: r | none => r) u2
inductive Out where
  | nxt (e : Env) | ret (d : D) | brk (e : Env) | cnt (e : Env)
def forK (k : Env → M Out) : Out → M Out
  | .nxt e => k e
  | .cnt e => k e
  | .brk e => ret (.nxt e)
  | .ret x => ret (.ret x)
def forRun (body : D → Env → M Out) : List D → Env → M Out
  | [], env => ret (.nxt env)
  | d :: ds, env => M.bind (body d env) (forK (forRun body ds))
/-- one turn of a while: none where the test is false -/
def whileN (step : Env → M (Option Out)) : Nat → Env → U → Option (Res Out)
  | 0, _, _ => none
  | n + 1, env, u => match step env u with
    | .bad => some .bad
    | .exc c a u1 => some (.exc c a u1)
    | .ok none u1 => some (.ok (.nxt env) u1)
    | .ok (some (.nxt e)) u1 => whileN step n e u1
    | .ok (some (.cnt e)) u1 => whileN step n e u1
    | .ok (some (.brk e)) u1 => some (.ok (.nxt e) u1)
    | .ok (some (.ret d)) u1 => some (.ok (.ret d) u1)
open Classical in
noncomputable def whileR (step : Env → M (Option Out)) (env : Env) : M Out := fun u =>
  if h : ∃ n r, whileN step n env u = some r then h.choose_spec.choose else .bad

/-! ### meaning -/
/-- what the defs of the module mean -/
abbrev Phi := Nat → List D → M D
/-- keyword calls: how the values stand in the parameters' order -/
structure Cfg where
  glb : List D
  perm : List (List Nat)

def rngL (lo hi : Int) : List D := (List.range (hi - lo).toNat).map fun (i : Nat) => D.int (lo + i)
def rngOk (i : Int) : Bool := decide (-(2 ^ 62) ≤ i) && decide (i < 2 ^ 62)
def rng1D : D → Option (List D)
  | .int j => if rngOk j then some (rngL 0 j) else none
  | _ => none
def rng2D : D → D → Option (List D)
  | .int i, .int j => if rngOk i && rngOk j then some (rngL i j) else none
  | _, _ => none
def enmL (k : Int) : List D → List D
  | [] => []
  | d :: ds => .tup [.int k, d] :: enmL (k + 1) ds
def enmD (k : Option Int) (d : D) : Option (List D) := match itsOf d with
  | some ds => if rngOk (k.getD 0) then some (enmL (k.getD 0) ds) else none
  | none => none
def zipL : List D → List D → List D
  | a :: r, b :: s => .tup [a, b] :: zipL r s
  | _, _ => []
def zipD : D → D → Option (List D)
  | .lst x, .lst y | .tup x, .tup y => some (zipL x y)
  | _, _ => none
def sortedD (d : D) : Option (List D) := match itsOf d with
  | some ds => match intsOf ds with
    | some ns => if ns.length < 64 then some ((ns.mergeSort (fun a b => decide (a ≤ b))).map D.int) else none
    | none => none
  | none => none
def asBl : D → M Bool
  | .bl b => ret b
  | _ => stuck
def getS (env : Env) (i : Nat) : Sl := (env[i]?).getD .no
def setS (env : Env) (i : Nat) (s : Sl) : Env := env.set i s
def wipeS (env : Env) : List Nat → Env
  | [] => env
  | i :: r => setS (wipeS env r) i .no
def permOf (c : Cfg) (j : Nat) (ds : List D) : Option (List D) := match c.perm[j]? with
  | some p => p.mapM fun k => ds[k]?
  | none => none

/-- a place of what stands in a slot is stored to -/
def setD (i : Nat) (d : D) (env : Env) (k : D) : M Env := match getS env i, k with
  | .own ds, .int k => match ixN ds.length k with
    | some j => ret (setS env i (.own (ds.set j d)))
    | none => stuck
  | .val (.cell c), .int k => fun u => match u[c]? with
    | some ds => match ixN ds.length k with
      | some j => .ok env (u.set c (ds.set j d))
      | none => .bad
    | none => .bad
  | _, _ => stuck
def frzD (env : Env) (i : Nat) : Env := match getS env i with
  | .own ds => setS env i (.val (.lst ds))
  | _ => env
def appD (i : Nat) (env : Env) (d : D) : M Out := match getS env i with
  | .own ds => if ds.length < line then ret (.nxt (setS env i (.own (ds ++ [d])))) else stuck
  | _ => stuck
def extD (i : Nat) (env : Env) (d : D) : M Out := match getS env i, d with
  | .own ds, .lst xs => if ds.length + xs.length ≤ line then ret (.nxt (setS env i (.own (ds ++ xs)))) else stuck
  | _, _ => stuck
def insD (i : Nat) (env : Env) (x d : D) : M Out := match getS env i, x with
  | .own ds, .int k => if 0 ≤ k ∧ k ≤ ds.length ∧ ds.length < 1000000 then ret (.nxt (setS env i (.own (ds.take k.toNat ++ [d] ++ ds.drop k.toNat)))) else stuck
  | _, _ => stuck
def thenO (f : Env → M Out) : Out → M Out
  | .nxt e => f e
  | o => ret o
/-- xs * n -/
def repD : D → D → M (List D)
  | .lst ds, .int k => if 0 ≤ k ∧ k ≤ 1000 ∧ ds.length ≤ 1000 then ret (List.replicate k.toNat ds).flatten else stuck
  | _, _ => stuck
section
variable (C : Cfg) (P : Phi)
mutual
noncomputable def denE : CE → Env → M D
  | .loc i, env => match getS env i with
    | .val d => ret d
    | _ => stuck
  | .cst c, _ => ret c.d
  | .glb j, _ => lift C.glb[j]?
  | .fnv f, _ => ret (.fn f)
  | .bin o a b, env => do let x ← denE a env; let y ← denE b env; lift (o.run x y)
  | .neg a, env => do match (← denE a env) with
    | .int i => ret (.int (-i))
    | _ => stuck
  | .notv a, env => do let b ← asBl (← denE a env); ret (.bl (!b))
  | .andv es, env => denAnd es env
  | .orv es, env => denOr es env
  | .cmp o a b, env => do let x ← denO a env; let y ← denO b env; return .bl (← lift (o.run x y))
  | .cmp2 o o2 a b c, env => do
    let x ← denE a env; let y ← denE b env
    if (← lift (o.run x y)) then do let z ← denE c env; return .bl (← lift (o2.run y z))
    else ret (.bl false)
  | .ite c a b, env => do if (← asBl (← denE c env)) then denE a env else denE b env
  | .tup es, env => do return .tup (← denEs es env)
  | .newc es, env => do
    let ds ← denEs es env
    fun u => .ok (.cell u.length) (u ++ [ds])
  | .idx a i, env => do let x ← denO a env; let y ← denE i env; fun u => lift (idxD u x y) u
  | .slT a lo hi, env => do
    let x ← denO a env; let l ← denB lo env; let h ← denB hi env
    match x with
    | .tup ds => ret (.tup (cut ds l h))
    | .lst ds => ret (.lst (cut ds l h))
    | _ => stuck
  | .revT a, env => do match (← denO a env) with
    | .tup ds => ret (.tup ds.reverse)
    | _ => stuck
  | .call f es, env => do P f (← denEs es env)
  | .callK f j es ks, env => do
    let a ← denEs es env; let b ← denEs ks env
    P f (← lift (permOf C j (a ++ b)))
  | .callL i es, env => match getS env i with
    | .val (.fn f) => do P f (← denEs es env)
    | _ => stuck
  | .bi b es, env => do let ds ← denOs es env; fun u => lift (b.run u ds) u
  | .isi a ts _, env => do return .bl (← lift (isAny ts (← denE a env)))
  | .fr f, env => do return .lst (← denF f env)
noncomputable def denB : OpB → Env → M (Option Int)
  | .no, _ => ret none
  | .so e, env => do lift (bndD (← denE e env))
noncomputable def denO : Op → Env → M D
  | .v e, env => denE e env
  | .bor i, env => match getS env i with
    | .own ds => ret (.lst ds)
    | _ => stuck
noncomputable def denOs : Ops → Env → M (List D)
  | .nil, _ => ret []
  | .cons o os, env => do let d ← denO o env; let r ← denOs os env; ret (d :: r)
noncomputable def denEs : CEs → Env → M (List D)
  | .nil, _ => ret []
  | .cons e es, env => do let d ← denE e env; let r ← denEs es env; ret (d :: r)
noncomputable def denAnd : CEs → Env → M D
  | .nil, _ => stuck
  | .cons e .nil, env => do let b ← asBl (← denE e env); ret (.bl b)
  | .cons e es, env => do if (← asBl (← denE e env)) then denAnd es env else ret (.bl false)
noncomputable def denOr : CEs → Env → M D
  | .nil, _ => stuck
  | .cons e .nil, env => do let b ← asBl (← denE e env); ret (.bl b)
  | .cons e es, env => do if (← asBl (← denE e env)) then ret (.bl true) else denOr es env
/-- all tests of a comprehension's clause -/
noncomputable def denCs : CEs → Env → M Bool
  | .nil, _ => ret true
  | .cons e .nil, env => do asBl (← denE e env)
  | .cons _ _, _ => stuck
noncomputable def denF : FE → Env → M (List D)
  | .disp es, env => denEs es env
  | .cat a b, env => do
    match (← denO a env), (← denO b env) with
    | .lst x, .lst y => if x.length + y.length ≤ line then ret (x ++ y) else stuck
    | _, _ => stuck
  | .lc elt vs tg it cs, env => do
    let items ← denI it env
    if items.length ≤ line then lcRun (fun d => do
      let env1 ← denT tg d (wipeS env vs)
      if (← denCs cs env1) then return some (← denE elt env1) else ret none) items
    else stuck
  | .lst o, env => do match (← denO o env) with
    | .lst ds | .tup ds => ret ds
    | _ => stuck
  | .lstR it, env => M.bind (denI it env) fun ds => if ds.length ≤ line then ret ds else stuck
  | .sorted o, env => do lift (sortedD (← denO o env))
  | .sl a lo hi, env => do
    let x ← denO a env; let l ← denB lo env; let h ← denB hi env
    match lstOf x with
    | some ds => ret (cut ds l h)
    | none => stuck
  | .rev a, env => do match (← denO a env) with
    | .lst ds => ret ds.reverse
    | _ => stuck
  | .rep a n, env => M.bind (denO a env) fun x => M.bind (denE n env) fun y => repD x y
noncomputable def denI : It → Env → M (List D)
  | .seq o, env => do lift (itsOf (← denO o env))
  | .rng1 a, env => do lift (rng1D (← denE a env))
  | .rng2 a b, env => do let x ← denE a env; let y ← denE b env; lift (rng2D x y)
  | .enm o k, env => do lift (enmD k (← denE o env))
  | .zip a b, env => do let x ← denE a env; let y ← denE b env; lift (zipD x y)
/-- d is stored -/
noncomputable def denT : Tg → D → Env → M Env
  | .nm i, d, env => ret (setS env i (.val d))
  | .tp ts, d, env => match d with
    | .tup ds => denTs ts ds env
    | _ => stuck
  | .ix i e, d, env => M.bind (denE e env) (setD i d env)
noncomputable def denTs : Tgs → List D → Env → M Env
  | .nil, [], env => ret env
  | .cons t ts, d :: ds, env => do denTs ts ds (← denT t d env)
  | _, _, _ => stuck
end

mutual
noncomputable def denS : CS → Env → M Out
  | .asg t e, env => do let d ← denE C P e env; return .nxt (← denT C P t d env)
  | .own i f, env => do let ds ← denF C P f env; return .nxt (setS env i (.own ds))
  | .par ps, env => do return .nxt (← denP ps env env)
  | .expr e, env => do let _ ← denE C P e env; return .nxt env
  | .app i e, env => M.bind (denE C P e env) (appD i env)
  | .ext i o, env => M.bind (denO C P o env) (extD i env)
  | .ins i a e, env => M.bind (denE C P a env) fun x => M.bind (denE C P e env) (insD i env x)
  | .ret e, env => do return .ret (← denE C P e env)
  | .retN, _ => ret (.ret .non)
  | .ifs c a b, env => do if (← asBl (← denE C P c env)) then denSs a env else denSs b env
  | .for_ t it b, env => do
    let items ← denI C P it env
    forRun (fun d e => do let e1 ← denT C P t d e; denSs b e1) items env
  | .whl c b, env => whileR (fun e => do if (← asBl (← denE C P c e)) then return some (← denSs b e) else ret none) env
  | .raise _, _ => stuck
  | .pass, env => ret (.nxt env)
  | .brk, env => ret (.brk env)
  | .cnt, env => ret (.cnt env)
  | .frz i, env => ret (.nxt (frzD env i))
noncomputable def denSs : CSs → Env → M Out
  | .nil, env => ret (.nxt env)
  | .cons s ss, env => M.bind (denS s env) (thenO (denSs ss))
/-- values from the left, each stored where it belongs: env₀ is read, env written -/
noncomputable def denP : Prs → Env → Env → M Env
  | .nil, _, env => ret env
  | .val (.nm i) e r, env₀, env => do let d ← denE C P e env₀; denP r env₀ (setS env i (.val d))
  | .val _ _ _, _, _ => stuck
  | .own i f r, env₀, env => do let ds ← denF C P f env₀; denP r env₀ (setS env i (.own ds))
end
end

/-! ### programs -/
structure FDef where
  name : Str
  ps : List Str
  N : List Str
  body : CSs
def startE (n : Nat) (ds : List D) : Env := ds.map Sl.val ++ List.replicate (n - ds.length) .no
noncomputable def runF (C : Cfg) (P : Phi) (f : FDef) (ds : List D) : M D := fun u =>
  if ds.length = f.ps.length then (denSs C P f.body (startE f.N.length ds) u).bind fun o u1 => match o with
    | .ret d => .ok d u1
    | .nxt _ => .ok .non u1
    | _ => .bad
  else .bad
noncomputable def run (C : Cfg) (fs : List FDef) : Nat → Phi
  | 0 => fun _ _ => stuck
  | k + 1 => fun i ds => match fs[i]? with
    | some f => runF C (run C fs k) f ds
    | none => stuck
/-- what the module gives: its defs, constants, keyword calls -/
structure SI where
  fs : List (Str × List Str)
  gl : List Str
  kw : List (Nat × Nat × List Str × List Nat)
  gcd : Bool
end Lv

end Part_Lev0

section Part_Lev1
set_option maxRecDepth 100000
set_option maxHeartbeats 2000000
/-! Lev1: how data stand in the model's heap; what a piece of syntax promises. -/
namespace Lv
open PySem PySem.Spec PyProof.Rows L2

/-- what is fixed: the written part, where the defs stand -/
structure Sta where
  K : PySem.W.Frag
  fnAd : Nat → Option Addr

mutual
inductive Rep (T : Sta) (F : Hp) (A : List Addr) : D → V → Prop
  | non : Rep T F A .non .non
  | bl (b : Bool) : Rep T F A (.bl b) (.bl b)
  | int (i : Int) : Rep T F A (.int i) (.int i)
  | str (x : Str) : Rep T F A (.str x) (.str x)
  | tup {a : Addr} {vs : List V} {ds : List D} : SqT T.K F a vs → Reps T F A ds vs → Rep T F A (.tup ds) (.ref a)
  | lst {a : Addr} {vs : List V} {ds : List D} : F a = some (.lst vs) → Reps T F A ds vs → Rep T F A (.lst ds) (.ref a)
  | scr {a : Addr} {ns : List Int} : SqL T.K F a (ns.map V.int) → Rep T F A (.scr ns) (.ref a)
  | cell {i : Nat} {a : Addr} : A[i]? = some a → Rep T F A (.cell i) (.ref a)
  | fn {i : Nat} {a : Addr} : T.fnAd i = some a → Rep T F A (.fn i) (.ref a)
inductive Reps (T : Sta) (F : Hp) (A : List Addr) : List D → List V → Prop
  | nil : Reps T F A [] []
  | cons {d : D} {v : V} {ds : List D} {vs : List V} : Rep T F A d v → Reps T F A ds vs → Reps T F A (d :: ds) (v :: vs)
end

/-- more is laid -/
structure Ext (F : Hp) (A : List Addr) (F' : Hp) (A' : List Addr) : Prop where
  f : ∀ b o, F b = some o → F' b = some o
  a : ∀ (i : Nat) (p : Addr), A[i]? = some p → A'[i]? = some p
theorem Ext.refl (F : Hp) (A : List Addr) : Ext F A F A := ⟨fun _ _ h => h, fun _ _ h => h⟩
theorem Ext.trans {F F1 F2 : Hp} {A A1 A2 : List Addr} (x : Ext F A F1 A1) (y : Ext F1 A1 F2 A2) : Ext F A F2 A2 := ⟨fun b o h => y.f b o (x.f b o h), fun i p h => y.a i p (x.a i p h)⟩

theorem sqT_mono {K : PySem.W.Frag} {F F' : Hp} {a : Addr} {xs : List V} (e : ∀ b o, F b = some o → F' b = some o) (h : SqT K F a xs) : SqT K F' a xs := by
  rcases h with (h | ⟨o, h⟩) | h
  · exact .inl (.inl (e _ _ h))
  · exact .inl (.inr ⟨o, e _ _ h⟩)
  · exact .inr h
theorem sqL_mono {K : PySem.W.Frag} {F F' : Hp} {a : Addr} {xs : List V} (e : ∀ b o, F b = some o → F' b = some o) (h : SqL K F a xs) : SqL K F' a xs := by
  rcases h with (h | ⟨o, h⟩) | h
  · exact .inl (.inl (e _ _ h))
  · exact .inl (.inr ⟨o, e _ _ h⟩)
  · exact .inr h
section
variable {T : Sta} {F F' : Hp} {A A' : List Addr}
mutual
theorem Rep.mono (e : Ext F A F' A') : ∀ {d : D} {v : V}, Rep T F A d v → Rep T F' A' d v
  | _, _, .non => .non
  | _, _, .bl b => .bl b
  | _, _, .int i => .int i
  | _, _, .str x => .str x
  | _, _, .tup h r => .tup (sqT_mono e.f h) (Reps.mono e r)
  | _, _, .lst h r => .lst (e.f _ _ h) (Reps.mono e r)
  | _, _, .scr h => .scr (sqL_mono e.f h)
  | _, _, .cell h => .cell (e.a _ _ h)
  | _, _, .fn h => .fn h
theorem Reps.mono (e : Ext F A F' A') : ∀ {d : List D} {v : List V}, Reps T F A d v → Reps T F' A' d v
  | _, _, .nil => .nil
  | _, _, .cons h r => .cons (Rep.mono e h) (Reps.mono e r)
end
theorem Reps.length : ∀ {ds : List D} {vs : List V}, Reps T F A ds vs → ds.length = vs.length
  | _, _, .nil => rfl
  | _, _, .cons _ r => congrArg (· + 1) r.length
theorem Reps.append : ∀ {ds : List D} {vs : List V} {es : List D} {ws : List V}, Reps T F A ds vs → Reps T F A es ws → Reps T F A (ds ++ es) (vs ++ ws)
  | _, _, _, _, .nil, s => s
  | _, _, _, _, .cons h r, s => .cons h (r.append s)
theorem Reps.get : ∀ {ds : List D} {vs : List V} {i : Nat} {d : D}, Reps T F A ds vs → ds[i]? = some d → ∃ v, vs[i]? = some v ∧ Rep T F A d v
  | _, _, _, _, .nil, h => by simp at h
  | _, _, 0, _, .cons h r, e => by simp at e; subst e; exact ⟨_, rfl, h⟩
  | _, _, i + 1, _, .cons h r, e => by
    obtain ⟨v, e1, h1⟩ := Reps.get (i := i) r (by simpa using e)
    exact ⟨v, by simpa using e1, h1⟩
theorem Reps.getV : ∀ {ds : List D} {vs : List V} {i : Nat} {v : V}, Reps T F A ds vs → vs[i]? = some v → ∃ d, ds[i]? = some d ∧ Rep T F A d v
  | _, _, _, _, .nil, h => by simp at h
  | _, _, 0, _, .cons h r, e => by simp at e; subst e; exact ⟨_, rfl, h⟩
  | _, _, i + 1, _, .cons h r, e => by
    obtain ⟨v, e1, h1⟩ := Reps.getV (i := i) r (by simpa using e)
    exact ⟨v, by simpa using e1, h1⟩
theorem Reps.drop : ∀ (n : Nat) {ds : List D} {vs : List V}, Reps T F A ds vs → Reps T F A (ds.drop n) (vs.drop n)
  | 0, _, _, r => r
  | _ + 1, _, _, .nil => .nil
  | n + 1, _, _, .cons _ r => Reps.drop n r
theorem Reps.take : ∀ (n : Nat) {ds : List D} {vs : List V}, Reps T F A ds vs → Reps T F A (ds.take n) (vs.take n)
  | 0, _, _, _ => .nil
  | _ + 1, _, _, .nil => .nil
  | n + 1, _, _, .cons h r => .cons h (Reps.take n r)
theorem Reps.set : ∀ (n : Nat) {ds : List D} {vs : List V} {d : D} {v : V}, Reps T F A ds vs → Rep T F A d v → Reps T F A (ds.set n d) (vs.set n v)
  | _, _, _, _, _, .nil, _ => .nil
  | 0, _, _, _, _, .cons _ r, h => .cons h r
  | n + 1, _, _, _, _, .cons h0 r, h => .cons h0 (Reps.set n r h)
theorem Reps.reverse : ∀ {ds : List D} {vs : List V}, Reps T F A ds vs → Reps T F A ds.reverse vs.reverse
  | _, _, .nil => .nil
  | _, _, .cons h r => by
    rw [List.reverse_cons, List.reverse_cons]
    exact (Reps.reverse r).append (.cons h .nil)
theorem Reps.rep {ds : List D} {vs : List V} (r : Reps T F A ds vs) : ∀ n : Nat, Reps T F A (List.replicate n ds).flatten (List.replicate n vs).flatten
  | 0 => .nil
  | n + 1 => by
    rw [List.replicate_succ, List.replicate_succ, List.flatten_cons, List.flatten_cons]
    exact r.append (Reps.rep r n)
theorem Reps.ints : ∀ {ds : List D} {vs : List V} {ns : List Int}, Reps T F A ds vs → intsOf ds = some ns → vs = ns.map V.int
  | _, _, _, .nil, e => by cases e; rfl
  | _, _, _, .cons (d := d) (ds := ds) h r, e => by
    cases d <;> try (simp [intsOf] at e; done)
    rename_i i
    cases h
    unfold intsOf at e
    cases q : intsOf ds with
    | none => rw [q] at e; cases e
    | some l => rw [q] at e; cases e; rw [Reps.ints r q]; rfl
theorem Reps.bls : ∀ {ds : List D} {vs : List V} {ns : List Bool}, Reps T F A ds vs → blsOf ds = some ns → vs = ns.map V.bl
  | _, _, _, .nil, e => by cases e; rfl
  | _, _, _, .cons (d := d) (ds := ds) h r, e => by
    cases d <;> try (simp [blsOf] at e; done)
    rename_i i
    cases h
    unfold blsOf at e
    cases q : blsOf ds with
    | none => rw [q] at e; cases e
    | some l => rw [q] at e; cases e; rw [Reps.bls r q]; rfl
theorem Reps.ofInts : ∀ (ns : List Int), Reps T F A (ns.map D.int) (ns.map V.int)
  | [] => .nil
  | n :: ns => .cons (.int n) (Reps.ofInts ns)
end

section
variable {T : Sta} {F : Hp} {A : List Addr} {v : V}
theorem rep_int {i : Int} (h : Rep T F A (.int i) v) : v = .int i := by cases h; rfl
theorem rep_bl {i : Bool} (h : Rep T F A (.bl i) v) : v = .bl i := by cases h; rfl
theorem rep_str {i : Str} (h : Rep T F A (.str i) v) : v = .str i := by cases h; rfl
theorem rep_tup {ds : List D} (h : Rep T F A (.tup ds) v) : ∃ a vs, v = .ref a ∧ SqT T.K F a vs ∧ Reps T F A ds vs := by cases h; exact ⟨_, _, rfl, by assumption, by assumption⟩
theorem rep_lst {ds : List D} (h : Rep T F A (.lst ds) v) : ∃ a vs, v = .ref a ∧ F a = some (.lst vs) ∧ Reps T F A ds vs := by cases h; exact ⟨_, _, rfl, by assumption, by assumption⟩
theorem rep_scr {ns : List Int} (h : Rep T F A (.scr ns) v) : ∃ a, v = .ref a ∧ SqL T.K F a (ns.map V.int) := by cases h; exact ⟨_, rfl, by assumption⟩
end

/-- the state: F what stands for good, A the shared lists, Ow the own ones -/
structure Rl (T : Sta) (F : Hp) (A : List Addr) (Ow : Addr → Option Nat) (H : Hp) (u : U) : Prop where
  sub : ∀ b o, F b = some o → H b = some o
  len : A.length = u.length
  nd : A.Nodup
  cel : ∀ (i : Nat) (p : Addr) (ds : List D), A[i]? = some p → u[i]? = some ds → F p = none ∧ ∃ vs, H p = some (.lst vs) ∧ Reps T F A ds vs
  ow : ∀ p i, Ow p = some i → F p = none ∧ p ∉ A ∧ H p ≠ none
structure Go (F : Hp) (A : List Addr) (H : Hp) (F' : Hp) (A' : List Addr) (H' : Hp) : Prop where
  ext : Ext F A F' A'
  fr : ∀ b o, H b = some o → b ∉ A → H' b = some o
  nw : ∀ p, p ∈ A' → p ∈ A ∨ H p = none
  nf : ∀ p o, F' p = some o → F p = some o ∨ H p = none
  kp : ∀ p, H p ≠ none → H' p ≠ none
theorem Go.refl (F : Hp) (A : List Addr) (H : Hp) : Go F A H F A H := ⟨.refl _ _, fun _ _ h _ => h, fun _ h => .inl h, fun _ _ h => .inl h, fun _ h => h⟩
theorem Go.trans {F F1 F2 H H1 H2 : Hp} {A A1 A2 : List Addr} (x : Go F A H F1 A1 H1) (y : Go F1 A1 H1 F2 A2 H2) : Go F A H F2 A2 H2 := by
  refine ⟨x.ext.trans y.ext, fun b o h hb => y.fr b o (x.fr b o h hb) fun q => ?_, fun p hp => ?_, fun p o h => ?_, fun p h => y.kp p (x.kp p h)⟩
  · rcases x.nw b q with z | z
    · exact hb z
    · rw [h] at z; cases z
  · rcases y.nw p hp with z | z
    · exact x.nw p z
    · by_cases hA : p ∈ A
      · exact .inl hA
      · cases q : H p with
        | none => exact .inr rfl
        | some o => rw [x.fr p o q hA] at z; cases z
  · rcases y.nf p o h with z | z
    · exact x.nf p o z
    · cases q : H p with
      | none => exact .inr rfl
      | some o => exact absurd z (x.kp p (by rw [q]; simp))

theorem Rl.noOwn {T : Sta} {F H : Hp} {A : List Addr} {Ow : Addr → Option Nat} {u : U} (r : Rl T F A Ow H u) : Rl T F A (fun _ => Option.none) H u := ⟨r.sub, r.len, r.nd, r.cel, fun _ _ h => by cases h⟩
theorem Rl.back {T : Sta} {F F' H H' : Hp} {A A' : List Addr} {Ow : Addr → Option Nat} {u u' : U} (r : Rl T F A Ow H u) (g : Go F A H F' A' H') (r' : Rl T F' A' (fun _ => Option.none) H' u') : Rl T F' A' Ow H' u' := by
  refine ⟨r'.sub, r'.len, r'.nd, r'.cel, fun p i h => ?_⟩
  obtain ⟨h1, h2, h3⟩ := r.ow p i h
  refine ⟨?_, fun q => ?_, g.kp p h3⟩
  · cases q : F' p with
    | none => rfl
    | some o =>
      rcases g.nf p o q with z | z
      · rw [h1] at z; cases z
      · exact absurd z h3
  · rcases g.nw p q with z | z
    · exact h2 z
    · exact h3 z

/-- what the names hold -/
structure En (T : Sta) (F : Hp) (A : List Addr) (Ow : Addr → Option Nat) (σ : L2.St) (H : Hp) (env : Env) : Prop where
  len : σ.length = env.length
  val : ∀ (i : Nat) (d : D), env[i]? = some (.val d) → ∃ v, σ[i]? = some (some v) ∧ Rep T F A d v
  own : ∀ (i : Nat) (ds : List D), env[i]? = some (.own ds) → ∃ (p : Addr) (vs : List V), σ[i]? = some (some (.ref p)) ∧ H p = some (.lst vs) ∧ Ow p = some i ∧ Reps T F A ds vs
theorem En.go {T : Sta} {F F' H H' : Hp} {A A' : List Addr} {Ow : Addr → Option Nat} {σ : L2.St} {env : Env} {u : U} (e : En T F A Ow σ H env) (r : Rl T F A Ow H u) (g : Go F A H F' A' H') : En T F' A' Ow σ H' env := by
  refine ⟨e.len, fun i d h => ?_, fun i ds h => ?_⟩
  · obtain ⟨v, h1, h2⟩ := e.val i d h
    exact ⟨v, h1, h2.mono g.ext⟩
  · obtain ⟨p, vs, h1, h2, h3, h4⟩ := e.own i ds h
    exact ⟨p, vs, h1, g.fr p _ h2 (r.ow p i h3).2.1, h3, h4.mono g.ext⟩

/-- what a piece of work ends in, and what is wanted then -/
def Post {α β : Type} (T : Sta) (Ow : Addr → Option Nat) (F : Hp) (A : List Addr) (H : Hp) (r : Res α) (R : Hp → List Addr → Hp → α → β → Prop) (Q : β → Hp → Prop) : Prop := match r with
  | .ok a u => ∀ (b : β) (F' : Hp) (A' : List Addr) (H' : Hp), Go F A H F' A' H' → Rl T F' A' Ow H' u → R F' A' H' a b → Q b H'
  | _ => False
theorem Post.shift {α β : Type} {T : Sta} {Ow : Addr → Option Nat} {F F1 H H1 : Hp} {A A1 : List Addr} {r : Res α} {R : Hp → List Addr → Hp → α → β → Prop} {Q : β → Hp → Prop} (p : Post T Ow F A H r R Q) (g : Go F A H F1 A1 H1) : Post T Ow F1 A1 H1 r R Q := by
  cases r with
  | ok a u => exact fun b F' A' H' g' rl h => p b F' A' H' (g.trans g') rl h
  | exc c a u => exact p
  | bad => exact p
theorem Post.bind {α β γ δ : Type} {T : Sta} {Ow : Addr → Option Nat} {F H : Hp} {A : List Addr} {r : Res γ} {f : γ → M α} {R : Hp → List Addr → Hp → α → β → Prop} {Q : β → Hp → Prop} {R1 : Hp → List Addr → Hp → γ → δ → Prop}
    (p : Post T Ow F A H (r.bind f) R Q) : Post T Ow F A H r R1 (fun x H1 => ∃ a u1 F1 A1, Go F A H F1 A1 H1 ∧ Rl T F1 A1 Ow H1 u1 ∧ R1 F1 A1 H1 a x ∧ Post T Ow F1 A1 H1 (f a u1) R Q) := by
  cases r with
  | ok a u => exact fun b F' A' H' g rl h => ⟨a, u, F', A', g, rl, h, Post.shift (show Post T Ow F A H (f a u) R Q from p) g⟩
  | exc c a u => exact p
  | bad => exact p
theorem Post.imp {α β : Type} {T : Sta} {Ow : Addr → Option Nat} {F H : Hp} {A : List Addr} {r : Res α} {R : Hp → List Addr → Hp → α → β → Prop} {Q Q' : β → Hp → Prop} (p : Post T Ow F A H r R Q) (h : ∀ b H', Q b H' → Q' b H') : Post T Ow F A H r R Q' := by
  cases r with
  | ok a u => exact fun b F' A' H' g rl x => h _ _ (p b F' A' H' g rl x)
  | exc c a u => exact p
  | bad => exact p
/-- it is through at once -/
theorem Post.ret {α β : Type} {T : Sta} {Ow : Addr → Option Nat} {F H : Hp} {A : List Addr} {a : α} {u : U} {R : Hp → List Addr → Hp → α → β → Prop} {Q : β → Hp → Prop} (p : Post T Ow F A H (.ok a u) R Q) (rl : Rl T F A Ow H u) {b : β} (h : R F A H a b) : Q b H :=
  p b F A H (.refl _ _ _) rl h

/-! ### kinds of ends -/
abbrev RV (T : Sta) : Hp → List Addr → Hp → D → V → Prop := fun F A _ d v => Rep T F A d v
abbrev RVs (T : Sta) : Hp → List Addr → Hp → List D → List V → Prop := fun F A _ d v => Reps T F A d v
/-- an operand: for good, or an own list as it is now -/
def OpRep (T : Sta) (F : Hp) (A : List Addr) (Ow : Addr → Option Nat) (H : Hp) (d : D) (v : V) : Prop :=
  Rep T F A d v ∨ ∃ p vs ds i, d = .lst ds ∧ v = .ref p ∧ H p = some (.lst vs) ∧ Ow p = some i ∧ Reps T F A ds vs
def OpReps (T : Sta) (F : Hp) (A : List Addr) (Ow : Addr → Option Nat) (H : Hp) : List D → List V → Prop
  | [], [] => True
  | d :: ds, v :: vs => OpRep T F A Ow H d v ∧ OpReps T F A Ow H ds vs
  | _, _ => False
theorem OpRep.go {T : Sta} {F F' H H' : Hp} {A A' : List Addr} {Ow : Addr → Option Nat} {u : U} {d : D} {v : V} (h : OpRep T F A Ow H d v) (r : Rl T F A Ow H u) (g : Go F A H F' A' H') : OpRep T F' A' Ow H' d v := by
  rcases h with h | ⟨p, vs, ds, i, e1, e2, h1, h2, h3⟩
  · exact .inl (h.mono g.ext)
  · exact .inr ⟨p, vs, ds, i, e1, e2, g.fr p _ h1 (r.ow p i h2).2.1, h2, h3.mono g.ext⟩
theorem OpReps.go {T : Sta} {F F' H H' : Hp} {A A' : List Addr} {Ow : Addr → Option Nat} {u : U} (r : Rl T F A Ow H u) (g : Go F A H F' A' H') : ∀ {ds : List D} {vs : List V}, OpReps T F A Ow H ds vs → OpReps T F' A' Ow H' ds vs
  | [], [], _ => True.intro
  | _ :: _, _ :: _, h => ⟨h.1.go r g, OpReps.go r g h.2⟩
  | [], _ :: _, h => h
  | _ :: _, [], h => h
abbrev RO (T : Sta) (Ow : Addr → Option Nat) : Hp → List Addr → Hp → D → V → Prop := fun F A H d v => OpRep T F A Ow H d v
abbrev ROs (T : Sta) (Ow : Addr → Option Nat) : Hp → List Addr → Hp → List D → List V → Prop := fun F A H d v => OpReps T F A Ow H d v
/-- a list that was just made -/
def FrRep (T : Sta) (Ow : Addr → Option Nat) (H0 : Hp) (F : Hp) (A : List Addr) (H : Hp) (ds : List D) (v : V) : Prop :=
  ∃ p vs, v = .ref p ∧ H p = some (.lst vs) ∧ F p = none ∧ p ∉ A ∧ Ow p = none ∧ H0 p = none ∧ Reps T F A ds vs
abbrev REq {α : Type} : Hp → List Addr → Hp → α → α → Prop := fun _ _ _ a b => a = b

/-- the state at which a piece of syntax is read -/
structure At (T : Sta) (F : Hp) (A : List Addr) (Ow : Addr → Option Nat) (σ : L2.St) (H : Hp) (env : Env) (u : U) : Prop where
  rl : Rl T F A Ow H u
  en : En T F A Ow σ H env
theorem At.go {T : Sta} {F F' H H' : Hp} {A A' : List Addr} {Ow : Addr → Option Nat} {σ : L2.St} {env : Env} {u u' : U} (a : At T F A Ow σ H env u) (g : Go F A H F' A' H') (r : Rl T F' A' Ow H' u') : At T F' A' Ow σ H' env u' := ⟨r, a.en.go a.rl g⟩

/-- the readings -/
def tR {α β : Type} (T : Sta) (m : Env → M α) (R : (Addr → Option Nat) → Hp → List Addr → Hp → α → β → Prop) : L2.St → Hp → (β → Hp → Prop) → Prop := fun σ H Q =>
  ∃ F A Ow env u, At T F A Ow σ H env u ∧ Post T Ow F A H (m env u) (R Ow) Q
section
variable (T : Sta) (C : Cfg) (P : Phi)
def tE (e : CE) : TE := tR T (denE C P e) (fun _ => RV T)
def tT (e : CE) : TT := tR T (fun env => M.bind (denE C P e env) asBl) (fun _ => REq)
def tEs (e : CEs) : TA := tR T (denEs C P e) (fun _ => RVs T)
def tO (e : Op) : TE := tR T (denO C P e) (RO T)
def tOs (e : Ops) : TA := tR T (denOs C P e) (ROs T)
def tB (e : OpB) : TO := tR T (denB C P e) (fun _ => REq)
def tF (e : FE) : TE := fun σ H Q => ∃ F A Ow env u, At T F A Ow σ H env u ∧ Post T Ow F A H (denF C P e env u) (FrRep T Ow H) Q
def tAndE (e : CEs) : TE := tR T (denAnd C P e) (fun _ => RV T)
def tOrE (e : CEs) : TE := tR T (denOr C P e) (fun _ => RV T)
end
theorem _root_.L2.PE.weak {X : Cx} {e : Expr} {t t' : TE} (h : PE X e t) (w : ∀ σ H Q, t' σ H Q → t σ H Q) : PE X e t' := ⟨fun pins s σ H Q I q => h.run pins s σ H Q I (w σ H Q q)⟩
theorem _root_.L2.PT.weak {X : Cx} {e : Expr} {t t' : TT} (h : PT X e t) (w : ∀ σ H Q, t' σ H Q → t σ H Q) : PT X e t' := ⟨fun pins s σ H Q I q => h.run pins s σ H Q I (w σ H Q q)⟩
theorem _root_.L2.PA.weak {X : Cx} {e : List Expr} {t t' : TA} (h : PA X e t) (w : ∀ σ H Q, t' σ H Q → t σ H Q) : PA X e t' := ⟨fun pos pins s σ H Q I q => h.run pos pins s σ H Q I (w σ H Q q)⟩
theorem _root_.L2.PS.weak {X : Cx} {e : Stmt} {t t' : TS} (h : PS X e t) (w : ∀ D σ H, t' D σ H → t D σ H) : PS X e t' := ⟨fun pins s σ H D I q => h.run pins s σ H D I (w D σ H q)⟩
theorem _root_.L2.PSs.weak {X : Cx} {e : List Stmt} {t t' : TS} (h : PSs X e t) (w : ∀ D σ H, t' D σ H → t D σ H) : PSs X e t' := ⟨fun pins s σ H D I q => h.run pins s σ H D I (w D σ H q)⟩
/-- the first of two pieces of work -/
theorem tR.step {α β γ δ : Type} {T : Sta} {m : Env → M γ} {f : Env → γ → M α} {R : (Addr → Option Nat) → Hp → List Addr → Hp → α → β → Prop} {R1 : (Addr → Option Nat) → Hp → List Addr → Hp → γ → δ → Prop} {σ : L2.St} {H : Hp} {Q : β → Hp → Prop}
    (h : tR T (fun env => M.bind (m env) (f env)) R σ H Q) : tR T m R1 σ H (fun x H1 => ∃ F A Ow env u a, At T F A Ow σ H1 env u ∧ R1 Ow F A H1 a x ∧ Post T Ow F A H1 (f env a u) (R Ow) Q) := by
  obtain ⟨F, A, Ow, env, u, at_, p⟩ := h
  refine ⟨F, A, Ow, env, u, at_, ?_⟩
  refine Post.imp (Post.bind (r := m env u) (f := f env) (R1 := R1 Ow) p) fun b H' ⟨a, u1, F1, A1, g, rl, h1, p1⟩ => ?_
  exact ⟨F1, A1, Ow, env, u1, a, at_.go g rl, h1, p1⟩
end Lv

end Part_Lev1

section Part_Lev2
set_option maxRecDepth 100000
set_option maxHeartbeats 2000000
/-! Lev2: operations on data are the model's operations on values. -/
namespace Lv
open PySem PySem.Spec PyProof.Rows L2

section
variable {T : Sta} {F H : Hp} {A : List Addr} {Ow : Addr → Option Nat} {u : U} {p : Addr} {o : HO}
theorem Go.none {F F' H H' : Hp} {A A' : List Addr} (g : Go F A H F' A' H') {p : Addr} (h : H' p = Option.none) : H p = Option.none := by
  cases q : H p with
  | none => rfl
  | some o => exact absurd h (g.kp p (by rw [q]; simp))
theorem Rl.notF (r : Rl T F A Ow H u) (h : H p = none) : F p = none := by
  cases q : F p with
  | none => rfl
  | some o => rw [r.sub p o q] at h; cases h
theorem Rl.notA (r : Rl T F A Ow H u) (h : H p = none) : p ∉ A := fun q => by
  obtain ⟨i, hi, e⟩ := List.getElem_of_mem q
  have h1 : A[i]? = some p := by rw [List.getElem?_eq_getElem hi, e]
  have h2 : i < u.length := by rw [← r.len]; exact hi
  obtain ⟨_, vs, h3, _⟩ := r.cel i p u[i] h1 (List.getElem?_eq_getElem h2)
  rw [h] at h3; cases h3
theorem Rl.notO (r : Rl T F A Ow H u) (h : H p = none) : Ow p = none := by
  cases q : Ow p with
  | none => rfl
  | some i => exact absurd h (r.ow p i q).2.2
theorem ext_upd (h : F p = none) : Ext F A (upd F p o) A := ⟨fun b x e => by rw [upd_ne (ne_of_none e h)]; exact e, fun _ _ h => h⟩
theorem Rl.new (r : Rl T F A Ow H u) (h : H p = none) : Rl T (upd F p o) A Ow (upd H p o) u ∧ Go F A H (upd F p o) A (upd H p o) := by
  have hF := r.notF h
  have hA := r.notA h
  refine ⟨⟨fun b x e => ?_, r.len, r.nd, fun i q ds h1 h2 => ?_, fun q i h1 => ?_⟩, ext_upd hF, fun b x e _ => ?_, fun q hq => .inl hq, fun q x e => ?_, fun q hq => ?_⟩
  · by_cases hb : b = p
    · subst hb; rw [upd_same] at e ⊢; exact e
    · rw [upd_ne hb] at e ⊢; exact r.sub b x e
  · obtain ⟨h3, vs, h4, h5⟩ := r.cel i q ds h1 h2
    have hq : q ≠ p := ne_of_none h4 h
    exact ⟨by rw [upd_ne hq]; exact h3, vs, by rw [upd_ne hq]; exact h4, h5.mono (ext_upd hF)⟩
  · obtain ⟨h3, h4, h5⟩ := r.ow q i h1
    have hq : q ≠ p := fun z => h5 (by rw [z]; exact h)
    exact ⟨by rw [upd_ne hq]; exact h3, h4, by rw [upd_ne hq]; exact h5⟩
  · rw [upd_ne (ne_of_none e h)]; exact e
  · by_cases hb : q = p
    · subst hb; exact .inr h
    · rw [upd_ne hb] at e; exact .inl e
  · by_cases hb : q = p
    · subst hb; exact absurd h hq
    · rw [upd_ne hb]; exact hq
theorem Rl.newH (r : Rl T F A Ow H u) (h : H p = none) : Rl T F A Ow (upd H p o) u ∧ Go F A H F A (upd H p o) := by
  refine ⟨⟨fun b x e => ?_, r.len, r.nd, fun i q ds h1 h2 => ?_, fun q i h1 => ?_⟩, .refl _ _, fun b x e _ => ?_, fun q hq => .inl hq, fun q x e => .inl e, fun q hq => ?_⟩
  · have e' := r.sub b x e
    rw [upd_ne (ne_of_none e' h)]; exact e'
  · obtain ⟨h3, vs, h4, h5⟩ := r.cel i q ds h1 h2
    exact ⟨h3, vs, by rw [upd_ne (ne_of_none h4 h)]; exact h4, h5⟩
  · obtain ⟨h3, h4, h5⟩ := r.ow q i h1
    have hq : q ≠ p := fun z => h5 (by rw [z]; exact h)
    exact ⟨h3, h4, by rw [upd_ne hq]; exact h5⟩
  · rw [upd_ne (ne_of_none e h)]; exact e
  · by_cases hb : q = p
    · subst hb; exact absurd h hq
    · rw [upd_ne hb]; exact hq
/-- a new tuple, a new list for good -/
theorem Rl.newTup (r : Rl T F A Ow H u) {ds : List D} {vs : List V} (rs : Reps T F A ds vs) {Q : VK} (P : Post T Ow F A H (.ok (.tup ds) u) (RV T) Q) (h : H p = none) : Q (.ref p) (upd H p (.tup vs)) := by
  obtain ⟨r1, g⟩ := r.new (o := .tup vs) h
  exact P (.ref p) _ A _ g r1 (.tup (.inl (.inl upd_same)) (rs.mono g.ext))
theorem Rl.newLst (r : Rl T F A Ow H u) {ds : List D} {vs : List V} (rs : Reps T F A ds vs) {Q : VK} (P : Post T Ow F A H (.ok (.lst ds) u) (RV T) Q) (h : H p = none) : Q (.ref p) (upd H p (.lst vs)) := by
  obtain ⟨r1, g⟩ := r.new (o := .lst vs) h
  exact P (.ref p) _ A _ g r1 (.lst upd_same (rs.mono g.ext))
/-- a new list, just made -/
theorem Rl.newFr (r : Rl T F A Ow H u) {H0 : Hp} {ds : List D} {vs : List V} (rs : Reps T F A ds vs) {Q : VK} (P : Post T Ow F A H (.ok ds u) (FrRep T Ow H0) Q) (h0 : ∀ q, H q = none → H0 q = none) (h : H p = none) : Q (.ref p) (upd H p (.lst vs)) := by
  obtain ⟨r1, g⟩ := r.newH (o := .lst vs) h
  exact P (.ref p) _ A _ g r1 ⟨p, vs, rfl, upd_same, r.notF h, r.notA h, r.notO h, h0 p h, rs⟩
end

theorem line_eq : line = sizeLine := by rw [sizeLine_eq]; rfl

section
variable {T : Sta} {X : Cx}
theorem mulOk_c {i j : Int} (h : mulOk i j = true) : CMulW i j := by
  have h2 : decide (i.natAbs.log2 + j.natAbs.log2 < 1000000) = true := h
  have h3 : i.natAbs.log2 + j.natAbs.log2 < 1000000 := of_decide_eq_true h2
  exact h3

def BinO.py : BinO → Operator
  | .add => .Add | .sub => .Sub | .mul => .Mult | .fdiv => .FloorDiv | .mod => .Mod | .pow => .Pow
theorem op_bin (hK : X.K = T.K) (o : BinO) : OpR X (binaryOp o.py) (fun x y H Q => ∃ F A Ow u a b, Rl T F A Ow H u ∧ Rep T F A a x ∧ Rep T F A b y ∧ Post T Ow F A H (lift (o.run a b) u) (RV T) Q) := by
  intro pins s σ H x y v w Q I rx ry ⟨F, A, Ow, u, a, b, rl, ra, rb, P⟩
  cases o with
  | add =>
    cases ra <;> cases rb <;> try exact P.elim
    · exact op_add pins s σ H _ _ v w Q I rx ry ⟨_, _, rfl, rfl, Post.ret P rl (.int _)⟩
    · rename_i s1 s2
      have P2 : Post T Ow F A H (lift (if s1.length + s2.length ≤ line then some (.str (s1 ++ s2)) else none) u) (RV T) Q := P
      by_cases h : s1.length + s2.length ≤ line
      · rw [if_pos h] at P2
        exact op_add_str pins s σ H _ _ v w Q I rx ry ⟨_, _, rfl, rfl, by rw [← line_eq]; exact h, Post.ret P2 rl (.str _)⟩
      · rw [if_neg h] at P2; exact P2.elim
    · rename_i p1 vs1 ds1 h1 r1 p2 vs2 ds2 h2 r2
      have P2 : Post T Ow F A H (lift (if ds1.length + ds2.length ≤ line then some (.tup (ds1 ++ ds2)) else none) u) (RV T) Q := P
      by_cases h : ds1.length + ds2.length ≤ line
      · rw [if_pos h] at P2
        refine op_catA pins s σ H _ _ v w Q I rx ry ⟨p1, p2, vs1, vs2, rfl, rfl, by rw [hK]; exact sqT_mono rl.sub h1, by rw [hK]; exact sqT_mono rl.sub h2, by rw [← r1.length, ← r2.length, ← line_eq]; exact h, fun z => ?_, fun _ z => ?_, fun _ _ p hp => rl.newTup (r1.append r2) P2 hp⟩
        · subst z; cases r1; exact Post.ret P2 rl (.tup h2 r2)
        · subst z; cases r2; rw [List.append_nil] at P2; exact Post.ret P2 rl (.tup h1 r1)
      · rw [if_neg h] at P2; exact P2.elim
  | sub =>
    cases ra <;> cases rb <;> try exact P.elim
    exact op_sub pins s σ H _ _ v w Q I rx ry ⟨_, _, rfl, rfl, Post.ret P rl (.int _)⟩
  | mul =>
    cases ra <;> cases rb <;> try exact P.elim
    case tup.int =>
      rename_i p1 vs1 ds1 h1 r1 n
      have P2 : Post T Ow F A H (lift (if 1 ≤ n ∧ n ≤ 1000 ∧ ds1.length ≤ 1000 ∧ 0 < ds1.length then some (.tup (List.replicate n.toNat ds1).flatten) else none) u) (RV T) Q := P
      by_cases h : 1 ≤ n ∧ n ≤ 1000 ∧ ds1.length ≤ 1000 ∧ 0 < ds1.length
      · rw [if_pos h] at P2
        have hne : vs1 ≠ [] := fun e => by
          have := r1.length
          rw [e] at this
          have h3 := h.2.2.2
          rw [this] at h3
          exact absurd h3 (by decide)
        by_cases h1n : n = 1
        · subst h1n
          have e : (List.replicate (1 : Int).toNat ds1).flatten = ds1 := by
            show (List.replicate 1 ds1).flatten = ds1
            simp
          rw [e] at P2
          exact op_repT1 pins s σ H _ _ v w Q I rx ry ⟨p1, vs1, rfl, rfl, by rw [hK]; exact sqT_mono rl.sub h1, hne, Post.ret P2 rl (.tup h1 r1)⟩
        · exact op_repT pins s σ H _ _ v w Q I rx ry ⟨p1, n, vs1, rfl, rfl, by rw [hK]; exact sqT_mono rl.sub h1, hne, by omega, h.2.1, by rw [← r1.length]; exact h.2.2.1, fun p hp => rl.newTup (r1.rep n.toNat) P2 hp⟩
      · rw [if_neg h] at P2; exact P2.elim
    rename_i i j
    have P2 : Post T Ow F A H (lift (if mulOk i j then some (.int (i * j)) else none) u) (RV T) Q := P
    by_cases h : mulOk i j = true
    · rw [if_pos h] at P2
      exact op_mulW pins s σ H _ _ v w Q I rx ry ⟨_, _, rfl, rfl, mulOk_c h, Post.ret P2 rl (.int _)⟩
    · rw [if_neg h] at P2; exact P2.elim
  | fdiv =>
    cases ra <;> cases rb <;> try exact P.elim
    rename_i i j
    have P2 : Post T Ow F A H (lift (if 0 < j ∧ j.natAbs.log2 < 9000 then some (.int (i / j)) else if j < 0 ∧ j.natAbs < 1073741824 then some (.int (i.fdiv j)) else none) u) (RV T) Q := P
    by_cases h : 0 < j ∧ j.natAbs.log2 < 9000
    · rw [if_pos h] at P2
      exact op_fdivW pins s σ H _ _ v w Q I rx ry ⟨_, _, rfl, rfl, h, Post.ret P2 rl (.int _)⟩
    · rw [if_neg h] at P2
      by_cases h : j < 0 ∧ j.natAbs < 1073741824
      · rw [if_pos h] at P2
        exact op_fdivN pins s σ H _ _ v w Q I rx ry ⟨_, _, rfl, rfl, ⟨by omega, h.2⟩, Post.ret P2 rl (.int _)⟩
      · rw [if_neg h] at P2; exact P2.elim
  | mod =>
    cases ra <;> cases rb <;> try exact P.elim
    rename_i i j
    have P2 : Post T Ow F A H (lift (if 0 < j then some (.int (i % j)) else none) u) (RV T) Q := P
    by_cases h : 0 < j
    · rw [if_pos h] at P2
      exact op_mod pins s σ H _ _ v w Q I rx ry ⟨_, _, rfl, rfl, h, Post.ret P2 rl (.int _)⟩
    · rw [if_neg h] at P2; exact P2.elim
  | pow =>
    cases ra <;> cases rb <;> try exact P.elim
    rename_i i j
    have P2 : Post T Ow F A H (lift (if 0 ≤ j ∧ j ≤ 1000000 ∧ i.natAbs < 2 ^ 64 then some (.int (i ^ j.toNat)) else none) u) (RV T) Q := P
    by_cases h : 0 ≤ j ∧ j ≤ 1000000 ∧ i.natAbs < 2 ^ 64
    · rw [if_pos h] at P2
      exact op_pow pins s σ H _ _ v w Q I rx ry ⟨_, _, rfl, rfl, h, Post.ret P2 rl (.int _)⟩
    · rw [if_neg h] at P2; exact P2.elim

/-! ### comparisons -/
def CmpO.py : CmpO → CmpOp
  | .lt => .Lt | .le => .LtE | .gt => .Gt | .ge => .GtE | .eq => .Eq | .ne => .NotEq | .is_ => .Is | .isnot => .IsNot | .in_ => .In | .notin => .NotIn
/-- an operand as a readable list -/
theorem OpRep.sq {F H : Hp} {A : List Addr} {Ow : Addr → Option Nat} {u : U} {ds : List D} {v : V} (rl : Rl T F A Ow H u) (h : OpRep T F A Ow H (.lst ds) v) : ∃ a vs, v = .ref a ∧ H a = some (.lst vs) ∧ Reps T F A ds vs := by
  rcases h with h | ⟨p, vs, ds', i, e, rfl, h1, _, h2⟩
  · cases h with
    | lst h r => exact ⟨_, _, rfl, rl.sub _ _ h, r⟩
  · cases e
    exact ⟨p, vs, rfl, h1, h2⟩
theorem OpRep.sqL {F H : Hp} {A : List Addr} {Ow : Addr → Option Nat} {u : U} {d : D} {ds : List D} {v : V} (rl : Rl T F A Ow H u) (h : OpRep T F A Ow H d v) (e : lstOf d = some ds) : ∃ a vs, v = .ref a ∧ SqL T.K H a vs ∧ Reps T F A ds vs := by
  cases d with
  | lst ds' =>
    cases e
    obtain ⟨a, vs, rfl, h1, h2⟩ := h.sq rl
    exact ⟨a, vs, rfl, .inl (.inl h1), h2⟩
  | scr ns =>
    cases e
    rcases h with h | ⟨_, _, _, _, e, _⟩
    · cases h with
      | scr h => exact ⟨_, _, rfl, sqL_mono rl.sub h, Reps.ofInts ns⟩
    · cases e
  | _ => cases e
theorem OpRep.st {F H : Hp} {A : List Addr} {Ow : Addr → Option Nat} {u : U} {ds : List D} {v : V} (rl : Rl T F A Ow H u) (h : OpRep T F A Ow H (.tup ds) v) : ∃ a vs, v = .ref a ∧ SqT T.K H a vs ∧ Reps T F A ds vs := by
  rcases h with h | ⟨p, vs, ds', i, e, _⟩
  · cases h with
    | tup h r => exact ⟨_, _, rfl, sqT_mono rl.sub h, r⟩
  · cases e
mutual
theorem dp_of {F H : Hp} {A : List Addr} (sub : ∀ b o, F b = some o → H b = some o) : ∀ {d : D} {v : V} {x : PyData}, Rep T F A d v → toPy d = some x → Dp T.K H v x
  | _, _, _, .non, e => by cases e; exact .non
  | _, _, _, .bl b, e => by cases e; exact .bl b
  | _, _, _, .int b, e => by cases e; exact .int b
  | _, _, _, .str b, e => by cases e; exact .str b
  | _, _, _, .tup (ds := ds) h r, e => by
    unfold toPy at e
    cases q : toPys ds with
    | none => rw [q] at e; cases e
    | some l => rw [q] at e; cases e; exact .tup (sqT_mono sub h) (dps_of sub r q)
  | _, _, _, .lst (ds := ds) h r, e => by
    unfold toPy at e
    cases q : toPys ds with
    | none => rw [q] at e; cases e
    | some l => rw [q] at e; cases e; exact .lst (.inl (.inl (sub _ _ h))) (dps_of sub r q)
  | _, _, _, .cell h, e => by cases e
  | _, _, _, .fn h, e => by cases e
  | _, _, _, .scr h, e => by cases e
theorem dps_of {F H : Hp} {A : List Addr} (sub : ∀ b o, F b = some o → H b = some o) : ∀ {d : List D} {v : List V} {x : List PyData}, Reps T F A d v → toPys d = some x → DpAll T.K H v x
  | _, _, _, .nil, e => by cases e; exact .nil
  | _, _, _, .cons (d := d) (ds := ds) h r, e => by
    unfold toPys at e
    cases q1 : toPy d with
    | none => rw [q1] at e; cases e
    | some x =>
      cases q : toPys ds with
      | none => rw [q1, q] at e; cases e
      | some l => rw [q1, q] at e; cases e; exact .cons (dp_of sub h q1) (dps_of sub r q)
end
theorem OpRep.dp {F H : Hp} {A : List Addr} {Ow : Addr → Option Nat} {u : U} {d : D} {v : V} {x : PyData} (rl : Rl T F A Ow H u) (h : OpRep T F A Ow H d v) (e : toPy d = some x) : Dp T.K H v x := by
  rcases h with h | ⟨p, vs, ds', i, rfl, rfl, h1, _, h2⟩
  · exact dp_of rl.sub h e
  · unfold toPy at e
    cases q : toPys ds' with
    | none => rw [q] at e; cases e
    | some l => rw [q] at e; cases e; exact .lst (.inl (.inl h1)) (dps_of rl.sub h2 q)
theorem eq_bin (hK : X.K = T.K) (hu : X.A.units + 64 < cLine) {pins : List (Addr × Obj)} {s : Shared} {σ : L2.St} {H F : Hp} {A : List Addr} {Ow : Addr → Option Nat} {u : U} {x y : V} {v w : Value} {Q : VK} {a b : D} {neg : Bool} {c : Bool} (I : Inv X pins σ H s) (rx : RelV x v) (ry : RelV y w)
    (rl : Rl T F A Ow H u) (ra : OpRep T F A Ow H a x) (rb : OpRep T F A Ow H b y) (h : eqD a b = some c) (q : Q (.bl (if neg then !c else c)) H) :
    wpAny (model X.prog X.w) X.A (compareOp (if neg then .NotEq else .Eq) v w) (EP X pins σ Q) X.xe s := by
  unfold eqD at h
  cases q1 : toPy a with
  | none => rw [q1] at h; cases h
  | some p =>
    cases q2 : toPy b with
    | none => rw [q1, q2] at h; cases h
    | some r =>
      rw [q1, q2] at h
      by_cases hs : (SeqAt.shaped p && SeqAt.shaped r) = true
      · have h' : (if (SeqAt.shaped p && SeqAt.shaped r) = true then some (PyData.eqv p r) else none) = some c := h
        rw [if_pos hs] at h'
        cases h'
        rw [Bool.and_eq_true] at hs
        have d1 := ra.dp rl q1
        have d2 := rb.dp rl q2
        rw [← hK] at d1 d2
        cases neg with
        | true => exact op_neD hu pins s σ H x y v w Q I rx ry ⟨p, r, d1, d2, hs.1, hs.2, q⟩
        | false => exact op_eqD hu pins s σ H x y v w Q I rx ry ⟨p, r, d1, d2, hs.1, hs.2, q⟩
      · have h' : (if (SeqAt.shaped p && SeqAt.shaped r) = true then some (PyData.eqv p r) else none) = some c := h
        rw [if_neg hs] at h'
        cases h'

theorem fin_c {pins : List (Addr × Obj)} {s : Shared} {σ : L2.St} {H F : Hp} {A : List Addr} {Ow : Addr → Option Nat} {u : U} {Q : VK} {c : Bool} (rl : Rl T F A Ow H u) (P : Post T Ow F A H (.ok c u) (fun _ _ _ c v => v = V.bl c) Q) : Q (.bl c) H := P _ F A H (.refl _ _ _) rl rfl
abbrev RB : Hp → List Addr → Hp → Bool → V → Prop := fun _ _ _ c v => v = V.bl c
theorem flat_of {F : Hp} {A : List Addr} {d : D} {v : V} (r : Rep T F A d v) (h : flatD d = true) : flatV v = true := by
  cases r <;> first | rfl | cases h
theorem flats_of {F : Hp} {A : List Addr} : ∀ {ds : List D} {vs : List V}, Reps T F A ds vs → ds.all flatD = true → vs.all flatV = true
  | _, _, .nil, _ => rfl
  | _, _, .cons h r, e => by
    rw [List.all_cons, Bool.and_eq_true] at e ⊢
    exact ⟨flat_of h e.1, flats_of r e.2⟩
theorem eqFlat_of {F : Hp} {A : List Addr} {d e : D} {v w : V} (r : Rep T F A d v) (r' : Rep T F A e w) (h : flatD d = true) (h' : flatD e = true) : eqV v w = eqFlat d e := by
  cases r <;> cases r' <;> first | rfl | cases h | cases h'
theorem in_of {F : Hp} {A : List Addr} {x : D} {v : V} (r : Rep T F A x v) (h : flatD x = true) : ∀ {ds : List D} {vs : List V}, Reps T F A ds vs → ds.all flatD = true → inV v vs = ds.any fun y => eqFlat y x
  | _, _, .nil, _ => rfl
  | _, _, .cons h1 r1, e => by
    rw [List.all_cons, Bool.and_eq_true] at e
    have ih := in_of r h r1 e.2
    unfold inV at ih ⊢
    rw [List.any_cons, List.any_cons, ih, eqFlat_of h1 r e.1 h]
theorem OpRep.flat {F H : Hp} {A : List Addr} {Ow : Addr → Option Nat} {d : D} {v : V} (h : OpRep T F A Ow H d v) (e : flatD d = true) : Rep T F A d v := by
  rcases h with h | ⟨p, vs, ds', i, rfl, _⟩
  · exact h
  · cases e
theorem is_rep {F : Hp} {A : List Addr} {d : D} {v : V} (r : Rep T F A d v) : decide (v = .non) = isNone d := by
  cases r <;> rfl
theorem op_cmp (hK : X.K = T.K) (hu : X.A.units + 64 < cLine) (o : CmpO) (ho : o ≠ .is_ ∧ o ≠ .isnot) : OpR X (compareOp o.py) (fun x y H Q => ∃ F A Ow u a b, Rl T F A Ow H u ∧ OpRep T F A Ow H a x ∧ OpRep T F A Ow H b y ∧ Post T Ow F A H (lift (o.run a b) u) RB Q) := by
  intro pins s σ H x y v w Q I rx ry ⟨F, A, Ow, u, a, b, rl, ra, rb, P⟩
  have intC : ∀ (f : Int → Int → Bool), Post T Ow F A H (lift (intCmp f a b) u) RB Q → ∃ i j, x = .int i ∧ y = .int j ∧ Q (.bl (f i j)) H := fun f P => by
    cases a <;> try exact P.elim
    cases b <;> try exact P.elim
    have h1 := ra.flat rfl
    have h2 := rb.flat rfl
    cases h1
    cases h2
    exact ⟨_, _, rfl, rfl, Post.ret P rl rfl⟩
  cases o with
  | lt => obtain ⟨i, j, rfl, rfl, q⟩ := intC _ P; obtain ⟨t, rfl⟩ := rx; obtain ⟨t', rfl⟩ := ry; exact lt_int ⟨.bl _, H, I, rfl, q⟩
  | le => obtain ⟨i, j, rfl, rfl, q⟩ := intC _ P; obtain ⟨t, rfl⟩ := rx; obtain ⟨t', rfl⟩ := ry; exact le_int ⟨.bl _, H, I, rfl, q⟩
  | gt => obtain ⟨i, j, rfl, rfl, q⟩ := intC _ P; obtain ⟨t, rfl⟩ := rx; obtain ⟨t', rfl⟩ := ry; exact gt_int ⟨.bl _, H, I, rfl, q⟩
  | ge => obtain ⟨i, j, rfl, rfl, q⟩ := intC _ P; obtain ⟨t, rfl⟩ := rx; obtain ⟨t', rfl⟩ := ry; exact ge_int ⟨.bl _, H, I, rfl, q⟩
  | eq =>
    have P2 : Post T Ow F A H (lift (eqD a b) u) RB Q := P
    cases q : eqD a b with
    | none => rw [q] at P2; exact P2.elim
    | some c => rw [q] at P2; exact eq_bin (neg := false) hK hu I rx ry rl ra rb q (Post.ret P2 rl rfl)
  | ne =>
    have P2 : Post T Ow F A H (lift (match eqD a b with | some c => some (!c) | none => none) u) RB Q := P
    cases q : eqD a b with
    | none => rw [q] at P2; exact P2.elim
    | some c => rw [q] at P2; exact eq_bin (neg := true) hK hu I rx ry rl ra rb q (Post.ret P2 rl rfl)
  | is_ => exact absurd rfl ho.1
  | isnot => exact absurd rfl ho.2
  | in_ =>
    have P2 : Post T Ow F A H (lift (inD a b) u) RB Q := P
    cases b <;> try exact P2.elim
    · rename_i ds
      have P3 : Post T Ow F A H (lift (if (flatD a && ds.all flatD) = true then some (ds.any fun y => eqFlat y a) else none) u) RB Q := P2
      by_cases h : (flatD a && ds.all flatD) = true
      · rw [if_pos h] at P3
        rw [Bool.and_eq_true] at h
        obtain ⟨p, vs, rfl, hs, rs⟩ := rb.st rl
        have h1 := ra.flat h.1
        refine op_in_seq pins s σ H _ _ v w Q I rx ry ⟨p, vs, rfl, .inr (by rw [hK]; exact hs), flat_of h1 h.1, flats_of rs h.2, ?_⟩
        rw [if_neg (by decide), in_of h1 h.1 rs h.2]
        exact Post.ret P3 rl rfl
      · rw [if_neg h] at P3; exact P3.elim
    · rename_i ds
      have P3 : Post T Ow F A H (lift (if (flatD a && ds.all flatD) = true then some (ds.any fun y => eqFlat y a) else none) u) RB Q := P2
      by_cases h : (flatD a && ds.all flatD) = true
      · rw [if_pos h] at P3
        rw [Bool.and_eq_true] at h
        obtain ⟨p, vs, rfl, hs, rs⟩ := rb.sq rl
        have h1 := ra.flat h.1
        refine op_in_seq pins s σ H _ _ v w Q I rx ry ⟨p, vs, rfl, .inl (.inl (.inl hs)), flat_of h1 h.1, flats_of rs h.2, ?_⟩
        rw [if_neg (by decide), in_of h1 h.1 rs h.2]
        exact Post.ret P3 rl rfl
      · rw [if_neg h] at P3; exact P3.elim
  | notin =>
    have P2 : Post T Ow F A H (lift (match inD a b with | some c => some (!c) | none => none) u) RB Q := P
    cases b <;> try exact P2.elim
    · rename_i ds
      have P3 : Post T Ow F A H (lift (match (if (flatD a && ds.all flatD) = true then some (ds.any fun y => eqFlat y a) else none) with | some c => some (!c) | none => none) u) RB Q := P2
      by_cases h : (flatD a && ds.all flatD) = true
      · rw [if_pos h] at P3
        rw [Bool.and_eq_true] at h
        obtain ⟨p, vs, rfl, hs, rs⟩ := rb.st rl
        have h1 := ra.flat h.1
        refine op_notIn_seq pins s σ H _ _ v w Q I rx ry ⟨p, vs, rfl, .inr (by rw [hK]; exact hs), flat_of h1 h.1, flats_of rs h.2, ?_⟩
        rw [if_pos rfl, in_of h1 h.1 rs h.2]
        exact Post.ret P3 rl rfl
      · rw [if_neg h] at P3; exact P3.elim
    · rename_i ds
      have P3 : Post T Ow F A H (lift (match (if (flatD a && ds.all flatD) = true then some (ds.any fun y => eqFlat y a) else none) with | some c => some (!c) | none => none) u) RB Q := P2
      by_cases h : (flatD a && ds.all flatD) = true
      · rw [if_pos h] at P3
        rw [Bool.and_eq_true] at h
        obtain ⟨p, vs, rfl, hs, rs⟩ := rb.sq rl
        have h1 := ra.flat h.1
        refine op_notIn_seq pins s σ H _ _ v w Q I rx ry ⟨p, vs, rfl, .inl (.inl (.inl hs)), flat_of h1 h.1, flats_of rs h.2, ?_⟩
        rw [if_pos rfl, in_of h1 h.1 rs h.2]
        exact Post.ret P3 rl rfl
      · rw [if_neg h] at P3; exact P3.elim

/-! ### places and cuts -/
theorem ixN_eq (n : Nat) (i : Int) : Lv.ixN n i = L2.ixN n i := rfl
theorem atI_rep {F : Hp} {A : List Addr} {ds : List D} {vs : List V} {k : Int} {d : D} (r : Reps T F A ds vs) (h : Lv.atI ds k = some d) : ∃ v, L2.atI vs k = some v ∧ Rep T F A d v := by
  unfold Lv.atI at h
  unfold L2.atI
  rw [← r.length]
  show ∃ v, (Lv.ixN ds.length k).bind (fun j => vs[j]?) = some v ∧ _
  cases q : Lv.ixN ds.length k with
  | none => rw [q] at h; cases h
  | some j =>
    rw [q] at h
    have h' : ds[j]? = some d := h
    obtain ⟨v, h1, h2⟩ := r.get h'
    exact ⟨v, h1, h2⟩
theorem ix_any (hK : X.K = T.K) : IxR X (fun x y H Q => ∃ F A Ow u a k, Rl T F A Ow H u ∧ OpRep T F A Ow H a x ∧ Rep T F A k y ∧ Post T Ow F A H (lift (idxD u a k) u) (RV T) Q) := by
  intro value slice pins s σ H x y v w Q I rx ry ⟨F, A, Ow, u, a, k, rl, ra, rk, P⟩ hs
  cases q : idxD u a k with
  | none => rw [q] at P; exact P.elim
  | some d =>
    rw [q] at P
    unfold idxD at q
    cases q1 : seqOf u a with
    | none => rw [q1] at q; cases q
    | some ds =>
      rw [q1] at q
      cases k <;> try (cases q; done)
      rename_i n
      cases rk
      have q : Lv.atI ds n = some d := q
      cases a with
      | tup ds' =>
        cases q1
        obtain ⟨p, vs, rfl, h1, h2⟩ := ra.st rl
        obtain ⟨v', h3, h4⟩ := atI_rep h2 q
        exact ix_tup value slice pins s σ H _ _ v w Q I rx ry ⟨p, vs, n, v', rfl, rfl, by rw [hK]; exact h1, h3, Post.ret P rl h4⟩ hs
      | lst ds' =>
        cases q1
        obtain ⟨p, vs, rfl, h1, h2⟩ := ra.sq rl
        obtain ⟨v', h3, h4⟩ := atI_rep h2 q
        have h5 : Rep T F A d v' := h4
        exact ix_list value slice pins s σ H _ _ v w Q I rx ry ⟨p, vs, n, v', rfl, rfl, .inl (.inl h1), h3, Post.ret P rl h5⟩ hs
      | cell i =>
        have q1 : u[i]? = some ds := q1
        rcases ra with ra | ⟨_, _, _, _, e, _⟩
        · cases ra with
          | cell ha =>
            obtain ⟨_, vs, h1, h2⟩ := rl.cel _ _ _ ha q1
            obtain ⟨v', h3, h4⟩ := atI_rep h2 q
            exact ix_list value slice pins s σ H _ _ v w Q I rx ry ⟨_, vs, n, v', rfl, rfl, .inl (.inl h1), h3, Post.ret P rl h4⟩ hs
        · cases e
      | scr ns =>
        cases q1
        obtain ⟨p, vs, rfl, h1, h2⟩ := ra.sqL rl rfl
        obtain ⟨v', h3, h4⟩ := atI_rep h2 q
        have h5 : Rep T F A d v' := h4
        exact ix_list value slice pins s σ H _ _ v w Q I rx ry ⟨p, vs, n, v', rfl, rfl, by rw [hK]; exact h1, h3, Post.ret P rl h5⟩ hs
      | _ => cases q1

theorem is_bool_gen {M : Model} {A : Around} {E : Value → Shared → Prop} {s : Shared} {v : Value} {d : Bool} {Q : Value → Shared → Prop} (hv : ∀ n, v ≠ .builtin n) (h : Q (.bool (v == .bool d)) s) : wpAny M A (compareOp .Is v (.bool d)) Q E s := by
  cases v <;> first | exact wpAny_pure h | exact absurd rfl (hv _)
theorem isnot_bool_gen {M : Model} {A : Around} {E : Value → Shared → Prop} {s : Shared} {v : Value} {d : Bool} {Q : Value → Shared → Prop} (hv : ∀ n, v ≠ .builtin n) (h : Q (.bool (!(v == .bool d))) s) : wpAny M A (compareOp .IsNot v (.bool d)) Q E s := by
  cases v <;> first | exact wpAny_pure h | exact absurd rfl (hv _)
theorem relv_nb {x : V} {v : Value} (r : RelV x v) : ∀ n, v ≠ .builtin n := fun n e => by
  subst e
  cases x with
  | non => cases r
  | bl a => cases r
  | int _ => obtain ⟨t, h⟩ := r; cases h
  | str _ => obtain ⟨t, h⟩ := r; cases h
  | byt _ => obtain ⟨t, h⟩ := r; cases h
  | flt _ => obtain ⟨t, h⟩ := r; cases h
  | ref _ => cases r
  | ty _ => cases r
theorem beq_bl {x : V} {v : Value} {b : Bool} (r : RelV x v) : (v == Value.bool b) = decide (x = .bl b) := by
  cases x with
  | non => cases r; rfl
  | bl a => cases r; cases a <;> cases b <;> rfl
  | int _ => obtain ⟨t, rfl⟩ := r; rfl
  | str _ => obtain ⟨t, rfl⟩ := r; rfl
  | byt _ => obtain ⟨t, rfl⟩ := r; rfl
  | flt _ => obtain ⟨t, rfl⟩ := r; rfl
  | ref _ => cases r; rfl
  | ty _ => cases r; rfl
theorem op_isD (neg : Bool) : OpR X (compareOp (if neg then .IsNot else .Is)) (fun x y H Q => ∃ F A Ow u a b, Rl T F A Ow H u ∧ OpRep T F A Ow H a x ∧ OpRep T F A Ow H b y ∧ Post T Ow F A H (lift ((if neg then CmpO.isnot else CmpO.is_).run a b) u) RB Q) := by
  intro pins s σ H x y v w Q I rx ry ⟨F, A, Ow, u, a, b, rl, ra, rb, P⟩
  have key : ∀ c, isD a b = some c → (y = .non ∧ decide (x = .non) = c) ∨ ∃ d, y = .bl d ∧ decide (x = .bl d) = c := fun c e => by
    have ra' : Rep T F A a x ∨ ∃ p, x = .ref p := by
      rcases ra with h | ⟨p, _, _, _, _, h, _⟩
      · exact .inl h
      · exact .inr ⟨p, h⟩
    cases b <;> try (cases a <;> cases e)
    all_goals (have hb := rb.flat rfl; cases hb)
    all_goals first | refine .inl ⟨rfl, ?_⟩ | refine .inr ⟨_, rfl, ?_⟩
    all_goals (rcases ra' with h | ⟨p, rfl⟩ <;> first | (cases h; rename_i b1 b2; cases b1 <;> cases b2 <;> rfl) | (cases h <;> rfl) | rfl | (rcases ra with h | ⟨_, _, _, _, h, _⟩ <;> cases h))
  cases neg with
  | false =>
    have P2 : Post T Ow F A H (lift (isD a b) u) RB Q := P
    cases q : isD a b with
    | none => rw [q] at P2; exact P2.elim
    | some c =>
      rw [q] at P2
      rcases key c q with ⟨rfl, e⟩ | ⟨d, rfl, e⟩
      · cases ry
        exact is_none_gen ⟨.bl c, H, I, by rw [rx.none_iff, e]; rfl, Post.ret P2 rl rfl⟩
      · cases ry
        exact is_bool_gen (relv_nb rx) ⟨.bl c, H, I, by rw [beq_bl rx, e]; rfl, Post.ret P2 rl rfl⟩
  | true =>
    have P2 : Post T Ow F A H (lift (match isD a b with | some c => some (!c) | none => none) u) RB Q := P
    cases q : isD a b with
    | none => rw [q] at P2; exact P2.elim
    | some c =>
      rw [q] at P2
      rcases key c q with ⟨rfl, e⟩ | ⟨d, rfl, e⟩
      · cases ry
        exact isnot_none_gen ⟨.bl (!c), H, I, by rw [rx.none_iff, e]; rfl, Post.ret P2 rl rfl⟩
      · cases ry
        exact isnot_bool_gen (relv_nb rx) ⟨.bl (!c), H, I, by rw [beq_bl rx, e]; rfl, Post.ret P2 rl rfl⟩

theorem sIx_eq (n d : Nat) (o : Option Int) : Lv.sIx n d o = HT.sIx n d o := by cases o <;> rfl
theorem cut_rep {F : Hp} {A : List Addr} {ds : List D} {vs : List V} (r : Reps T F A ds vs) (lo hi : Option Int) : Reps T F A (cut ds lo hi) (cutV vs lo hi) := by
  unfold cut cutV
  rw [sIx_eq, sIx_eq, r.length]
  exact (r.drop _).take _
/-- t[lo:hi] -/
theorem sl_tupD (hK : X.K = T.K) : SlR X (fun x lo hi H Q => ∃ F A Ow u ds, Rl T F A Ow H u ∧ OpRep T F A Ow H (.tup ds) x ∧ Post T Ow F A H (.ok (.tup (cut ds lo hi)) u) (RV T) Q) := by
  intro pins s σ H x v vl vu lo hi sl Q I rx hs pl pu ⟨F, A, Ow, u, ds, rl, ra, P⟩
  have ra' : Rep T F A (.tup ds) x := by
    rcases ra with h | ⟨_, _, _, _, e, _⟩
    · exact h
    · cases e
  cases ra' with
  | tup h1 h2 =>
    refine sl_tupA pins s σ H _ v vl vu lo hi sl Q I rx hs pl pu ⟨_, _, rfl, by rw [hK]; exact sqT_mono rl.sub h1, fun hw => ?_, fun hw p hp => rl.newTup (cut_rep h2 lo hi) P hp⟩
    have e : cut ds lo hi = ds := by
      unfold cut
      rw [sIx_eq, sIx_eq, h2.length, hw.1, hw.2, List.drop_zero, Nat.sub_zero, ← h2.length, List.take_length]
    rw [e] at P
    exact Post.ret P rl (.tup h1 h2)
theorem sl_bothD (hK : X.K = T.K) : SlR X (fun x lo hi H Q => ∃ F A Ow u d d', Rl T F A Ow H u ∧ OpRep T F A Ow H d x ∧ ((∃ ds, d = .tup ds ∧ d' = .tup (cut ds lo hi)) ∨ (∃ ds, d = .lst ds ∧ d' = .lst (cut ds lo hi))) ∧ Post T Ow F A H (.ok d' u) (RV T) Q) := by
  intro pins s σ H x v vl vu lo hi sl Q I rx hs pl pu ⟨F, A, Ow, u, d, d', rl, ra, hd, P⟩
  rcases hd with ⟨ds, rfl, rfl⟩ | ⟨ds, rfl, rfl⟩
  · exact sl_tupD hK pins s σ H x v vl vu lo hi sl Q I rx hs pl pu ⟨F, A, Ow, u, ds, rl, ra, P⟩
  · obtain ⟨a, vs, rfl, h1, h2⟩ := ra.sq rl
    exact sl_list pins s σ H _ v vl vu lo hi sl Q I rx hs pl pu ⟨a, vs, rfl, .inl (.inl h1), fun p hp => rl.newLst (cut_rep h2 lo hi) P hp⟩
/-- xs[lo:hi], just made -/
theorem sl_lstD (hK : X.K = T.K) : SlR X (fun x lo hi H Q => ∃ F A Ow u d ds H0, Rl T F A Ow H u ∧ OpRep T F A Ow H d x ∧ lstOf d = some ds ∧ (∀ q, H q = none → H0 q = none) ∧ Post T Ow F A H (.ok (cut ds lo hi) u) (FrRep T Ow H0) Q) := by
  intro pins s σ H x v vl vu lo hi sl Q I rx hs pl pu ⟨F, A, Ow, u, d, ds, H0, rl, ra, hd, h0, P⟩
  obtain ⟨a, vs, rfl, h1, h2⟩ := ra.sqL rl hd
  exact sl_list pins s σ H _ v vl vu lo hi sl Q I rx hs pl pu ⟨a, vs, rfl, by rw [hK]; exact h1, fun p hp => rl.newFr (cut_rep h2 lo hi) P h0 hp⟩

/-! ### builtin functions -/
theorem maxL_spec : ∀ {ns : List Int}, ns ≠ [] → maxL ns ∈ ns ∧ ∀ y ∈ ns, y ≤ maxL ns
  | [], h => absurd rfl h
  | [a], _ => ⟨List.mem_cons_self, fun y hy => by rw [List.mem_singleton.mp hy]; exact Int.le_refl _⟩
  | a :: b :: r, _ => by
    obtain ⟨h1, h2⟩ := maxL_spec (ns := b :: r) (by simp)
    show (if a < maxL (b :: r) then maxL (b :: r) else a) ∈ _ ∧ ∀ y ∈ a :: b :: r, y ≤ (if a < maxL (b :: r) then maxL (b :: r) else a)
    by_cases h : a < maxL (b :: r)
    · rw [if_pos h]
      refine ⟨List.mem_cons_of_mem _ h1, fun y hy => ?_⟩
      rcases List.mem_cons.mp hy with e | e
      · omega
      · exact h2 y e
    · rw [if_neg h]
      refine ⟨List.mem_cons_self, fun y hy => ?_⟩
      rcases List.mem_cons.mp hy with e | e
      · omega
      · have := h2 y e; omega
theorem minL_spec : ∀ {ns : List Int}, ns ≠ [] → minL ns ∈ ns ∧ ∀ y ∈ ns, minL ns ≤ y
  | [], h => absurd rfl h
  | [a], _ => ⟨List.mem_cons_self, fun y hy => by rw [List.mem_singleton.mp hy]; exact Int.le_refl _⟩
  | a :: b :: r, _ => by
    obtain ⟨h1, h2⟩ := minL_spec (ns := b :: r) (by simp)
    show (if minL (b :: r) < a then minL (b :: r) else a) ∈ _ ∧ ∀ y ∈ a :: b :: r, (if minL (b :: r) < a then minL (b :: r) else a) ≤ y
    by_cases h : minL (b :: r) < a
    · rw [if_pos h]
      refine ⟨List.mem_cons_of_mem _ h1, fun y hy => ?_⟩
      rcases List.mem_cons.mp hy with e | e
      · omega
      · exact h2 y e
    · rw [if_neg h]
      refine ⟨List.mem_cons_self, fun y hy => ?_⟩
      rcases List.mem_cons.mp hy with e | e
      · omega
      · have := h2 y e; omega
theorem OpReps.one {F H : Hp} {A : List Addr} {Ow : Addr → Option Nat} {d : D} {vs : List V} (h : OpReps T F A Ow H [d] vs) : ∃ v, vs = [v] ∧ OpRep T F A Ow H d v := by
  match vs, h with
  | [v], h => exact ⟨v, rfl, h.1⟩
theorem OpReps.two {F H : Hp} {A : List Addr} {Ow : Addr → Option Nat} {d e : D} {vs : List V} (h : OpReps T F A Ow H [d, e] vs) : ∃ v w, vs = [v, w] ∧ OpRep T F A Ow H d v ∧ OpRep T F A Ow H e w := by
  match vs, h with
  | [v, w], h => exact ⟨v, w, rfl, h.1, h.2.1⟩
def Bi.id : Bi → Value
  | .len => .builtin "len" | .sum => .builtin "sum" | .max => .builtin "max" | .min => .builtin "min" | .max2 => .builtin "max" | .min2 => .builtin "min"
  | .abs => .builtin "abs" | .int => .type "int" | .all => .builtin "all" | .any => .builtin "any" | .tuple => .type "tuple" | .gcd => .builtin "math.gcd" | .divmod => .builtin "divmod"
theorem call_bi (hK : X.K = T.K) (hc : X.calm = true) (b : Bi) : CallR X b.id (fun xs H Q => ∃ F A Ow u ds, Rl T F A Ow H u ∧ OpReps T F A Ow H ds xs ∧ Post T Ow F A H (lift (b.run u ds) u) (RV T) Q) := by
  intro pins s σ H xs us Q I rx ⟨F, A, Ow, u, ds, rl, ra, P⟩
  cases q : b.run u ds with
  | none => rw [q] at P; exact P.elim
  | some d =>
    rw [q] at P
    have P : Post T Ow F A H (.ok d u) (RV T) Q := P
    unfold Bi.run at q
    split at q
    · -- len of a list
      obtain ⟨v, rfl, h⟩ := ra.one
      obtain ⟨a, vs, rfl, h1, h2⟩ := h.sq rl
      cases q
      refine call_len_seq pins s σ H _ us Q I rx ⟨a, vs, rfl, .inl (.inl (.inl h1)), ?_⟩
      rw [← h2.length]; exact Post.ret P rl (.int _)
    · obtain ⟨v, rfl, h⟩ := ra.one
      obtain ⟨a, vs, rfl, h1, h2⟩ := h.st rl
      cases q
      refine call_len_seq pins s σ H _ us Q I rx ⟨a, vs, rfl, .inr (by rw [hK]; exact h1), ?_⟩
      rw [← h2.length]; exact Post.ret P rl (.int _)
    · obtain ⟨v, rfl, h⟩ := ra.one
      obtain ⟨a, vs, rfl, h1, h2⟩ := h.sqL rl rfl
      cases q
      refine call_len_seq pins s σ H _ us Q I rx ⟨a, vs, rfl, .inl (by rw [hK]; exact h1), ?_⟩
      rw [← h2.length, List.length_map]; exact Post.ret P rl (.int _)
    · rename_i z
      obtain ⟨v, rfl, h⟩ := ra.one
      cases h.flat rfl
      split at q
      · rename_i hz
        cases q
        exact call_len_str pins s σ H _ us Q I rx ⟨z, rfl, by rw [← line_eq]; exact hz, Post.ret P rl (.int _)⟩
      · cases q
    · -- sum of a tuple
      obtain ⟨v, rfl, h⟩ := ra.one
      obtain ⟨a, vs, rfl, h1, h2⟩ := h.st rl
      split at q
      · rename_i ns e
        cases q
        have e2 := h2.ints e
        subst e2
        exact cr_sumT hc pins s σ H _ us Q I rx ⟨a, ns, rfl, by rw [hK]; exact h1, Post.ret P rl (.int _)⟩
      · cases q
    · obtain ⟨v, rfl, h⟩ := ra.one
      obtain ⟨a, vs, rfl, h1, h2⟩ := h.st rl
      split at q
      · rename_i ns e
        have e2 := h2.ints e
        subst e2
        split at q
        · cases q
        · rename_i hn
          cases q
          have hne : ns ≠ [] := fun z => hn (by rw [z]; rfl)
          refine cr_maxT hc pins s σ H _ us Q I rx ⟨a, ns, rfl, by rw [hK]; exact h1, List.length_pos_iff.mpr hne, fun m hm hy => ?_⟩
          obtain ⟨s1, s2⟩ := maxL_spec hne
          have e3 : m = maxL ns := by
            have := hy _ s1
            have := s2 _ hm
            omega
          rw [e3]
          exact Post.ret P rl (.int _)
      · cases q
    · obtain ⟨v, rfl, h⟩ := ra.one
      obtain ⟨a, vs, rfl, h1, h2⟩ := h.st rl
      split at q
      · rename_i ns e
        have e2 := h2.ints e
        subst e2
        split at q
        · cases q
        · rename_i hn
          cases q
          have hne : ns ≠ [] := fun z => hn (by rw [z]; rfl)
          refine cr_minT hc pins s σ H _ us Q I rx ⟨a, ns, rfl, by rw [hK]; exact h1, List.length_pos_iff.mpr hne, fun m hm hy => ?_⟩
          obtain ⟨s1, s2⟩ := minL_spec hne
          have e3 : m = minL ns := by
            have := hy _ s1
            have := s2 _ hm
            omega
          rw [e3]
          exact Post.ret P rl (.int _)
      · cases q
    · -- sum
      obtain ⟨v, rfl, h⟩ := ra.one
      obtain ⟨a, vs, rfl, h1, h2⟩ := h.sq rl
      split at q
      · rename_i ns e
        cases q
        have e2 := h2.ints e
        subst e2
        exact cr_sum hc pins s σ H _ us Q I rx ⟨a, ns, rfl, .inl (.inl h1), Post.ret P rl (.int _)⟩
      · cases q
    · -- max
      obtain ⟨v, rfl, h⟩ := ra.one
      obtain ⟨a, vs, rfl, h1, h2⟩ := h.sq rl
      split at q
      · rename_i ns e
        have e2 := h2.ints e
        subst e2
        split at q
        · cases q
        · rename_i hn
          cases q
          have hne : ns ≠ [] := fun z => hn (by rw [z]; rfl)
          refine cr_max hc pins s σ H _ us Q I rx ⟨a, ns, rfl, .inl (.inl h1), List.length_pos_iff.mpr hne, fun m hm hy => ?_⟩
          obtain ⟨s1, s2⟩ := maxL_spec hne
          have e3 : m = maxL ns := by
            have := hy _ s1
            have := s2 _ hm
            omega
          rw [e3]
          exact Post.ret P rl (.int _)
      · cases q
    · -- min
      obtain ⟨v, rfl, h⟩ := ra.one
      obtain ⟨a, vs, rfl, h1, h2⟩ := h.sq rl
      split at q
      · rename_i ns e
        have e2 := h2.ints e
        subst e2
        split at q
        · cases q
        · rename_i hn
          cases q
          have hne : ns ≠ [] := fun z => hn (by rw [z]; rfl)
          refine cr_min hc pins s σ H _ us Q I rx ⟨a, ns, rfl, .inl (.inl h1), List.length_pos_iff.mpr hne, fun m hm hy => ?_⟩
          obtain ⟨s1, s2⟩ := minL_spec hne
          have e3 : m = minL ns := by
            have := hy _ s1
            have := s2 _ hm
            omega
          rw [e3]
          exact Post.ret P rl (.int _)
      · cases q
    · -- max of two
      obtain ⟨v, w, rfl, h1, h2⟩ := ra.two
      cases h1.flat rfl
      cases h2.flat rfl
      cases q
      exact call_max2 hc pins s σ H _ us Q I rx ⟨_, _, rfl, Post.ret P rl (.int _)⟩
    · obtain ⟨v, w, rfl, h1, h2⟩ := ra.two
      cases h1.flat rfl
      cases h2.flat rfl
      cases q
      exact call_min2 hc pins s σ H _ us Q I rx ⟨_, _, rfl, Post.ret P rl (.int _)⟩
    · obtain ⟨v, rfl, h⟩ := ra.one
      cases h.flat rfl
      cases q
      exact call_abs pins s σ H _ us Q I rx ⟨_, rfl, Post.ret P rl (.int _)⟩
    · obtain ⟨v, rfl, h⟩ := ra.one
      cases h.flat rfl
      cases q
      exact call_int1 pins s σ H _ us Q I rx (.inl ⟨_, rfl, Post.ret P rl (.int _)⟩)
    · -- all
      obtain ⟨v, rfl, h⟩ := ra.one
      obtain ⟨a, vs, rfl, h1, h2⟩ := h.sq rl
      split at q
      · rename_i ns e
        cases q
        have e2 := h2.bls e
        subst e2
        exact cr_all hc pins s σ H _ us Q I rx ⟨a, ns, rfl, .inl (.inl h1), Post.ret P rl (.bl _)⟩
      · cases q
    · obtain ⟨v, rfl, h⟩ := ra.one
      obtain ⟨a, vs, rfl, h1, h2⟩ := h.sq rl
      split at q
      · rename_i ns e
        cases q
        have e2 := h2.bls e
        subst e2
        exact cr_any hc pins s σ H _ us Q I rx ⟨a, ns, rfl, .inl (.inl h1), Post.ret P rl (.bl _)⟩
      · cases q
    · -- tuple of a list
      obtain ⟨v, rfl, h⟩ := ra.one
      obtain ⟨a, vs, rfl, h1, h2⟩ := h.sq rl
      cases q
      exact call_tuple_of pins s σ H _ us Q I rx ⟨a, vs, rfl, .inl ⟨.inl (.inl h1), fun l hl => rl.newTup h2 P hl⟩⟩
    · rename_i ds'
      obtain ⟨v, rfl, h⟩ := ra.one
      rcases h with h | ⟨_, _, _, _, e, _⟩
      · cases h with
        | tup h1 h2 =>
          cases q
          exact call_tuple_of pins s σ H _ us Q I rx ⟨_, _, rfl, .inr ⟨by rw [hK]; exact sqT_mono rl.sub h1, Post.ret P rl (.tup h1 h2)⟩⟩
      · cases e
    · -- gcd
      obtain ⟨v, w, rfl, h1, h2⟩ := ra.two
      cases h1.flat rfl
      cases h2.flat rfl
      cases q
      exact cr_gcd pins s σ H _ us Q I rx ⟨_, _, rfl, Post.ret P rl (.int _)⟩
    · -- divmod
      obtain ⟨v, w, rfl, h1, h2⟩ := ra.two
      cases h1.flat rfl
      cases h2.flat rfl
      split at q
      · rename_i hj
        cases q
        exact call_divmod pins s σ H _ us Q I rx ⟨_, _, rfl, hj, fun p hp => rl.newTup (.cons (.int _) (.cons (.int _) .nil)) P hp⟩
      · cases q
    · cases q

/-! ### isinstance -/
def Ty.name : Ty → String
  | .int => "int" | .bool => "bool" | .str => "str" | .tuple => "tuple" | .list => "list" | .dict => "dict"
theorem ty_of {F H : Hp} {A : List Addr} {d : D} {v : V} (sub : ∀ b o, F b = some o → H b = some o) (r : Rep T F A d v) (hK : X.K = T.K) : ∀ (t : Ty) (b : Bool), isTy t d = some b → ∃ k : String, TyX X.K H v (.type k) ∧ PySem.W.kitOne X.K (.type k) (.type t.name) = some b ∧ ∀ t' b', isTy t' d = some b' → PySem.W.kitOne X.K (.type k) (.type t'.name) = some b' := by
  have tup : ∀ {a : Addr} {vs : List V}, SqT T.K F a vs → TyX X.K H (.ref a) (.type "tuple") := fun {a vs} h => by
    rw [hK]
    rcases h with (h | ⟨o, h⟩) | ⟨o, its, n, h1, h2, _⟩
    · exact .base (.tup (sub _ _ h))
    · exact .fTuple (sub _ _ h)
    · exact .kTuple h1 h2
  have lst : ∀ {a : Addr} {vs : List V}, F a = some (.lst vs) → TyX X.K H (.ref a) (.type "list") := fun {a vs} h => .base (.lst (sub _ _ h))
  have all : ∀ k : String, (∀ (t : Ty) (b : Bool), isTy t d = some b → kitB k t.name = some b) → ∀ t b, isTy t d = some b → PySem.W.kitOne X.K (.type k) (.type t.name) = some b := fun k h t b e => kit_ty (h t b e)
  intro t b e
  cases r with
  | non => exact ⟨"NoneType", .base .non, all _ (fun t b e => by cases t <;> cases e <;> decide +kernel) t b e, all _ fun t b e => by cases t <;> cases e <;> decide +kernel⟩
  | bl c => exact ⟨"bool", .base (.bl c), all _ (fun t b e => by cases t <;> cases e <;> decide +kernel) t b e, all _ fun t b e => by cases t <;> cases e <;> decide +kernel⟩
  | int c => exact ⟨"int", .base (.int c), all _ (fun t b e => by cases t <;> cases e <;> decide +kernel) t b e, all _ fun t b e => by cases t <;> cases e <;> decide +kernel⟩
  | str c => exact ⟨"str", .base (.str c), all _ (fun t b e => by cases t <;> cases e <;> decide +kernel) t b e, all _ fun t b e => by cases t <;> cases e <;> decide +kernel⟩
  | tup h _ => exact ⟨"tuple", tup h, all _ (fun t b e => by cases t <;> cases e <;> decide +kernel) t b e, all _ fun t b e => by cases t <;> cases e <;> decide +kernel⟩
  | lst h _ => exact ⟨"list", lst h, all _ (fun t b e => by cases t <;> cases e <;> decide +kernel) t b e, all _ fun t b e => by cases t <;> cases e <;> decide +kernel⟩
  | cell h => cases t <;> cases e
  | fn h => cases t <;> cases e
  | scr h => cases t <;> cases e
theorem any_of {d : D} {k : String} {K : PySem.W.Frag} (h : ∀ t b, isTy t d = some b → PySem.W.kitOne K (.type k) (.type (Ty.name t)) = some b) : ∀ (ts : List Ty) (b : Bool), isAny ts d = some b → PySem.W.kitAny K (.type k) (ts.map fun t => Value.type t.name) = some b
  | [], b, e => by
    unfold isAny at e
    split at e
    · cases e; exact kitAny_nil
    · cases e
  | t :: ts, b, e => by
    unfold isAny at e
    split at e
    · rename_i a c h1 h2
      cases e
      refine kitAny_cons (h t a h1) (fun z => ?_) fun z => by rw [z]; rfl
      rw [z, Bool.false_or]
      exact any_of h ts c h2
    · cases e
theorem cls_pairs : ∀ ts : List Ty, Paired ClsV (ts.map fun t => V.ty t.name) (ts.map fun t => Value.type t.name)
  | [] => .nil
  | t :: ts => .cons (.ty t.name) (cls_pairs ts)
theorem isAny_first {d : D} : ∀ {ts : List Ty} {b : Bool}, isAny ts d = some b → ∃ c, isTy .int d = some c
  | [], b, e => by
    unfold isAny at e
    split at e
    · rename_i c h; exact ⟨c, h⟩
    · cases e
  | t :: ts, b, e => by
    unfold isAny at e
    split at e
    · rename_i a c h1 h2; exact isAny_first h2
    · cases e
/-- isinstance(x, t), isinstance(x, (t, ..)): x, then the tuple of classes as it was just laid -/
theorem call_isiD (hK : X.K = T.K) (ts : List Ty) (sole : Bool) : CallR X (.builtin "isinstance") (fun xs H Q => ∃ F A Ow u d x c, xs = [x, c] ∧ Rl T F A Ow H u ∧ Rep T F A d x ∧
    (if sole then ∃ t, ts = [t] ∧ c = V.ty t.name else ∃ p, c = .ref p ∧ H p = some (.tup (ts.map fun t => V.ty t.name))) ∧ Post T Ow F A H (lift (isAny ts d) u) RB Q) := by
  intro pins s σ H xs us Q I rx h
  obtain ⟨F, A, Ow, u, d, x, c, rfl, rl, ra, hcl, P⟩ := h
  cases q : isAny ts d with
  | none => rw [q] at P; exact P.elim
  | some b =>
    rw [q] at P
    have P : Post T Ow F A H (.ok b u) RB Q := P
    obtain ⟨b0, e0⟩ := isAny_first q
    obtain ⟨k, h1, _, h2⟩ := ty_of (X := X) rl.sub ra hK .int b0 e0
    cases sole with
    | true =>
      obtain ⟨t, rfl, rfl⟩ := hcl
      have e : isTy t d = some b := by
        unfold isAny at q
        split at q
        · rename_i a c' g1 g2
          cases q
          unfold isAny at g2
          split at g2
          · cases g2; rw [Bool.or_false]; exact g1
          · cases g2
        · cases q
      exact call_isi pins s σ H _ us Q I rx ⟨x, .ty t.name, .type k, .type t.name, b, rfl, .ty _, h1, h2 t b e, Post.ret P rl rfl⟩
    | false =>
      obtain ⟨p, rfl, hp⟩ := hcl
      exact call_isiT pins s σ H _ us Q I rx ⟨x, p, _, .type k, _, b, rfl, hp, cls_pairs ts, h1, any_of h2 ts b q, Post.ret P rl rfl⟩
end
end Lv

end Part_Lev2

section Part_Lev3
set_option maxRecDepth 100000
set_option maxHeartbeats 2000000
/-! Lev3: pieces of syntax keep what their meaning says: expressions. -/
namespace Lv
open PySem PySem.Spec PyProof.Rows L2

section
variable {T : Sta} {C : Cfg} {P : Phi} {X : Cx} {pos : Pos}
theorem go_ret {α β : Type} {R : (Addr → Option Nat) → Hp → List Addr → Hp → α → β → Prop} {Q : β → Hp → Prop} {F H : Hp} {A : List Addr} {Ow : Addr → Option Nat} {σ : L2.St} {env : Env} {u : U} {a : α} {b : β} (at_ : At T F A Ow σ H env u) (p : Post T Ow F A H (.ok a u) (R Ow) Q) (h : R Ow F A H a b) : Q b H :=
  Post.ret p at_.rl h

/-! ### names, constants -/
theorem snd_loc {i : Nat} {x : Str} (hN : X.N[i]? = some x) (hv : Vis X.env.scope x) (hd : (x == ("__debug__" : Str)) = false) (hcd : (x == ("__classdict__" : Str)) = false) : PE X (.Name x pos) (tE T C P (.loc i)) := by
  refine (pe_var (i := i) hN hv hd hcd).weak fun σ H Q h => ?_
  obtain ⟨F, A, Ow, env, u, at_, p⟩ := h
  have p : Post T Ow F A H ((match getS env i with | .val d => ret d | _ => stuck : M D) u) (RV T) Q := p
  cases q : env[i]? with
  | none =>
    have e : getS env i = .no := by unfold getS; rw [q]; rfl
    rw [e] at p; exact p.elim
  | some s =>
    have e : getS env i = s := by unfold getS; rw [q]; rfl
    rw [e] at p
    cases s with
    | no => exact p.elim
    | own ds => exact p.elim
    | val d =>
      obtain ⟨v, h1, h2⟩ := at_.en.val i d q
      exact ⟨v, h1, Post.ret p at_.rl h2⟩
theorem cst_rep {F : Hp} {A : List Addr} : ∀ c : Cst, ∃ v, Rep T F A c.d v
  | .non => ⟨_, .non⟩
  | .bl b => ⟨_, .bl b⟩
  | .int i => ⟨_, .int i⟩
  | .str x => ⟨_, .str x⟩
theorem snd_int {i : Int} {k : Nat} : PE X (.Constant (.int i) k pos) (tE T C P (.cst (.int i))) :=
  pe_int.weak fun σ H Q ⟨F, A, Ow, env, u, at_, p⟩ => Post.ret (show Post T Ow F A H (.ok (.int i) u) (RV T) Q from p) at_.rl (.int i)
theorem snd_bl {i : Bool} {k : Nat} : PE X (.Constant (.bool i) k pos) (tE T C P (.cst (.bl i))) :=
  pe_bl.weak fun σ H Q ⟨F, A, Ow, env, u, at_, p⟩ => Post.ret (show Post T Ow F A H (.ok (.bl i) u) (RV T) Q from p) at_.rl (.bl i)
theorem snd_str {i : Str} {k : Nat} : PE X (.Constant (.str i) k pos) (tE T C P (.cst (.str i))) :=
  pe_str.weak fun σ H Q ⟨F, A, Ow, env, u, at_, p⟩ => Post.ret (show Post T Ow F A H (.ok (.str i) u) (RV T) Q from p) at_.rl (.str i)
theorem snd_non {k : Nat} : PE X (.Constant .none k pos) (tE T C P (.cst .non)) :=
  pe_non.weak fun σ H Q ⟨F, A, Ow, env, u, at_, p⟩ => Post.ret (show Post T Ow F A H (.ok .non u) (RV T) Q from p) at_.rl .non
theorem snd_glb {j : Nat} {x : Str} {u : Value} {v : V} {d : D} (hg : Gl X x) (hm : X.mg x = some u) (r : RelV v u) (hd : (x == ("__debug__" : Str)) = false) (hC : C.glb[j]? = some d) (hr : ∀ F A, Rep T F A d v) : PE X (.Name x pos) (tE T C P (.glb j)) := by
  refine (pe_glob hg hm r hd).weak fun σ H Q ⟨F, A, Ow, env, u, at_, p⟩ => ?_
  have p : Post T Ow F A H (lift C.glb[j]? u) (RV T) Q := p
  rw [hC] at p
  exact Post.ret p at_.rl (hr F A)
theorem snd_fnv {f : Nat} {x : Str} {a : Addr} (hg : Gl X x) (hm : X.mg x = some (.ref a)) (hd : (x == ("__debug__" : Str)) = false) (hf : T.fnAd f = some a) : PE X (.Name x pos) (tE T C P (.fnv f)) :=
  (pe_glob (v := .ref a) hg hm rfl hd).weak fun σ H Q ⟨F, A, Ow, env, u, at_, p⟩ => Post.ret (show Post T Ow F A H (.ok (.fn f) u) (RV T) Q from p) at_.rl (.fn hf)

/-! ### operators -/
theorem snd_bin (hK : X.K = T.K) {o : BinO} {a b : CE} {a' b' : Expr} (ha : PE X a' (tE T C P a)) (hb : PE X b' (tE T C P b)) : PE X (.BinOp a' o.py b' pos) (tE T C P (.bin o a b)) := by
  refine (pe_op (op_bin hK o) ha hb).weak fun σ H Q h => ?_
  have h : tR T (fun env => M.bind (denE C P a env) fun x => M.bind (denE C P b env) fun y => lift (o.run x y)) (fun _ => RV T) σ H Q := h
  obtain ⟨F, A, Ow, env, u, at_, p⟩ := h
  refine ⟨F, A, Ow, env, u, at_, p.bind.imp fun x H1 ⟨d1, u1, F1, A1, g1, rl1, r1, p1⟩ => ?_⟩
  refine ⟨F1, A1, Ow, env, u1, at_.go g1 rl1, p1.bind.imp fun y H2 ⟨d2, u2, F2, A2, g2, rl2, r2, p2⟩ => ?_⟩
  exact ⟨F2, A2, Ow, u2, d1, d2, rl2, Rep.mono g2.ext r1, r2, p2⟩
theorem snd_neg {a : CE} {a' : Expr} (ha : PE X a' (tE T C P a)) : PE X (.UnaryOp .USub a' pos) (tE T C P (.neg a)) := by
  refine (pe_un un_neg ha).weak fun σ H Q ⟨F, A, Ow, env, u, at_, p⟩ => ?_
  have p : Post T Ow F A H ((denE C P a env u).bind fun d => match d with | .int i => ret (.int (-i)) | _ => stuck) (RV T) Q := p
  refine ⟨F, A, Ow, env, u, at_, p.bind.imp fun x H1 ⟨d1, u1, F1, A1, g1, rl1, r1, p1⟩ => ?_⟩
  cases r1 <;> try exact p1.elim
  exact ⟨_, rfl, Post.ret p1 rl1 (.int _)⟩
theorem cmp_key {o : CmpO} {a b : Op} : ∀ σ H Q, tE T C P (.cmp o a b) σ H Q → tOp (fun x y H Q => ∃ F A Ow u a b, Rl T F A Ow H u ∧ OpRep T F A Ow H a x ∧ OpRep T F A Ow H b y ∧ Post T Ow F A H (lift (o.run a b) u) RB Q) (tO T C P a) (tO T C P b) σ H Q := fun σ H Q ⟨F, A, Ow, env, u, at_, p⟩ => by
  have p : Post T Ow F A H ((denO C P a env u).bind fun x => M.bind (denO C P b env) fun y => M.bind (lift (o.run x y)) fun c => ret (.bl c)) (RV T) Q := p
  refine ⟨F, A, Ow, env, u, at_, (p.bind (R1 := RO T Ow)).imp fun x H1 ⟨d1, u1, F1, A1, g1, rl1, r1, p1⟩ => ?_⟩
  have p1 : Post T Ow F1 A1 H1 ((denO C P b env u1).bind fun y => M.bind (lift (o.run d1 y)) fun c => ret (.bl c)) (RV T) Q := p1
  refine ⟨F1, A1, Ow, env, u1, at_.go g1 rl1, (p1.bind (R1 := RO T Ow)).imp fun y H2 ⟨d2, u2, F2, A2, g2, rl2, r2, p2⟩ => ?_⟩
  refine ⟨F2, A2, Ow, u2, d1, d2, rl2, r1.go rl1 g2, r2, ?_⟩
  have p2 : Post T Ow F2 A2 H2 ((lift (o.run d1 d2) u2).bind fun c => ret (.bl c)) (RV T) Q := p2
  cases e : o.run d1 d2 with
  | none => rw [e] at p2; exact p2.elim
  | some c =>
    rw [e] at p2
    intro v F' A' H' g rl hv
    have hv : v = V.bl c := hv
    subst hv
    exact (show Post T Ow F2 A2 H2 (.ok (.bl c) u2) (RV T) Q from p2) _ F' A' H' g rl (.bl c)
theorem snd_cmp (hK : X.K = T.K) (hu : X.A.units + 64 < cLine) {o : CmpO} {a b : Op} {a' b' : Expr} (ha : PE X a' (tO T C P a)) (hb : PE X b' (tO T C P b)) (hm : behindInMarks o.py b' = false) : PE X (.Compare a' [o.py] [b'] pos) (tE T C P (.cmp o a b)) := by
  by_cases h1 : o = .is_
  · subst h1
    exact (pe_cmpR (op_isD (T := T) false) ha hb hm).weak cmp_key
  · by_cases h2 : o = .isnot
    · subst h2
      exact (pe_cmpR (op_isD (T := T) true) ha hb hm).weak cmp_key
    · exact (pe_cmpR (op_cmp hK hu o ⟨h1, h2⟩) ha hb hm).weak cmp_key
/-- an expression as an operand -/
theorem snd_ov {a : CE} {a' : Expr} (ha : PE X a' (tE T C P a)) : PE X a' (tO T C P (.v a)) :=
  ha.weak fun σ H Q ⟨F, A, Ow, env, u, at_, p⟩ => ⟨F, A, Ow, env, u, at_, by
    have p : Post T Ow F A H (denE C P a env u) (RO T Ow) Q := p
    revert p
    cases denE C P a env u with
    | ok d u1 => exact fun p b F' A' H' g rl h => p b F' A' H' g rl (.inl h)
    | exc c a u => exact fun p => p
    | bad => exact fun p => p⟩
theorem snd_bor {i : Nat} {x : Str} (hN : X.N[i]? = some x) (hv : Vis X.env.scope x) (hd : (x == ("__debug__" : Str)) = false) (hcd : (x == ("__classdict__" : Str)) = false) : PE X (.Name x pos) (tO T C P (.bor i)) := by
  refine (pe_var (i := i) hN hv hd hcd).weak fun σ H Q h => ?_
  obtain ⟨F, A, Ow, env, u, at_, p⟩ := h
  have p : Post T Ow F A H ((match getS env i with | .own d => ret (.lst d) | _ => stuck : M D) u) (RO T Ow) Q := p
  cases q : env[i]? with
  | none =>
    have e : getS env i = .no := by unfold getS; rw [q]; rfl
    rw [e] at p; exact p.elim
  | some s =>
    have e : getS env i = s := by unfold getS; rw [q]; rfl
    rw [e] at p
    cases s with
    | no => exact p.elim
    | val ds => exact p.elim
    | own ds =>
      obtain ⟨q, vs, h1, h2, h3, h4⟩ := at_.en.own i ds q
      exact ⟨.ref q, h1, Post.ret p at_.rl (.inr ⟨q, vs, ds, i, rfl, rfl, h2, h3, h4⟩)⟩
abbrev rCmp (T : Sta) (o : CmpO) : R2 := fun x y H Q => ∃ F A Ow u a b, Rl T F A Ow H u ∧ OpRep T F A Ow H a x ∧ OpRep T F A Ow H b y ∧ Post T Ow F A H (lift (o.run a b) u) RB Q
theorem cmp2_key {o o2 : CmpO} {a b c : CE} : ∀ σ H Q, tE T C P (.cmp2 o o2 a b c) σ H Q → tChain (rCmp T o) (rCmp T o2) (tE T C P a) (tE T C P b) (tE T C P c) σ H Q := fun σ H Q ⟨F, A, Ow, env, u, at_, p⟩ => by
  have p : Post T Ow F A H ((denE C P a env u).bind fun x => M.bind (denE C P b env) fun y => M.bind (lift (o.run x y)) fun k => if k = true then M.bind (denE C P c env) fun z => M.bind (lift (o2.run y z)) fun k => ret (.bl k) else ret (.bl false)) (RV T) Q := p
  refine ⟨F, A, Ow, env, u, at_, p.bind.imp fun x H1 ⟨d1, u1, F1, A1, g1, rl1, r1, p1⟩ => ?_⟩
  have p1 : Post T Ow F1 A1 H1 ((denE C P b env u1).bind fun y => M.bind (lift (o.run d1 y)) fun k => if k = true then M.bind (denE C P c env) fun z => M.bind (lift (o2.run y z)) fun k => ret (.bl k) else ret (.bl false)) (RV T) Q := p1
  refine ⟨F1, A1, Ow, env, u1, at_.go g1 rl1, p1.bind.imp fun y H2 ⟨d2, u2, F2, A2, g2, rl2, r2, p2⟩ => ?_⟩
  have p2 : Post T Ow F2 A2 H2 ((lift (o.run d1 d2) u2).bind fun k => if k = true then M.bind (denE C P c env) fun z => M.bind (lift (o2.run d2 z)) fun k => ret (.bl k) else ret (.bl false)) (RV T) Q := p2
  refine ⟨F2, A2, Ow, u2, d1, d2, rl2, .inl (Rep.mono g2.ext r1), .inl r2, ?_⟩
  cases e : o.run d1 d2 with
  | none => rw [e] at p2; exact p2.elim
  | some k =>
    rw [e] at p2
    intro v F3 A3 H3 g3 rl3 hv
    have hv : v = V.bl k := hv
    subst hv
    have at3 : At T F3 A3 Ow σ H3 env u2 := ((at_.go g1 rl1).go g2 rl2).go g3 rl3
    cases k with
    | false =>
      refine ⟨false, rfl, ?_⟩
      rw [if_neg (by decide)]
      exact (show Post T Ow F2 A2 H2 (.ok (.bl false) u2) (RV T) Q from p2) _ F3 A3 H3 g3 rl3 (.bl false)
    | true =>
      refine ⟨true, rfl, ?_⟩
      rw [if_pos rfl]
      have p3 : Post T Ow F3 A3 H3 ((denE C P c env u2).bind fun z => M.bind (lift (o2.run d2 z)) fun k => ret (.bl k)) (RV T) Q := Post.shift (show Post T Ow F2 A2 H2 ((denE C P c env u2).bind fun z => M.bind (lift (o2.run d2 z)) fun k => ret (.bl k)) (RV T) Q from p2) g3
      refine ⟨F3, A3, Ow, env, u2, at3, p3.bind.imp fun z H4 ⟨d4, u4, F4, A4, g4, rl4, r4, p4⟩ => ?_⟩
      refine ⟨F4, A4, Ow, u4, d2, d4, rl4, .inl (Rep.mono (g3.ext.trans g4.ext) r2), .inl r4, ?_⟩
      have p4 : Post T Ow F4 A4 H4 ((lift (o2.run d2 d4) u4).bind fun k => ret (.bl k)) (RV T) Q := p4
      cases e2 : o2.run d2 d4 with
      | none => rw [e2] at p4; exact p4.elim
      | some k2 =>
        rw [e2] at p4
        intro v F' A' H' g rl hv
        have hv : v = V.bl k2 := hv
        subst hv
        exact (show Post T Ow F4 A4 H4 (.ok (.bl k2) u4) (RV T) Q from p4) _ F' A' H' g rl (.bl k2)

theorem snd_cmp2 (hK : X.K = T.K) (hu : X.A.units + 64 < cLine) {o o2 : CmpO} {a b c : CE} {a' b' c' : Expr} (h1 : o ≠ .is_ ∧ o ≠ .isnot) (h2 : o2 ≠ .is_ ∧ o2 ≠ .isnot) (ha : PE X a' (tE T C P a)) (hb : PE X b' (tE T C P b)) (hc : PE X c' (tE T C P c))
    (hm : lastMarks [o.py, o2.py] [b', c'] = false) : PE X (.Compare a' [o.py, o2.py] [b', c'] pos) (tE T C P (.cmp2 o o2 a b c)) := by
  exact (pe_chain (op_cmp hK hu o h1) (op_cmp hK hu o2 h2) ha hb hc hm).weak cmp2_key

/-! ### tests -/
/-- a test by its value -/
theorem snd_tval {a : CE} {a' : Expr} (ha : PE X a' (tE T C P a)) (he : ∀ whole, isTrue a' X.env whole = (do let v ← whole; standAt a'.pos; holding [v] (truthy v))) : PT X a' (tT T C P a) := by
  refine (pt_val ha he).weak fun σ H Q ⟨F, A, Ow, env, u, at_, p⟩ => ?_
  have p : Post T Ow F A H ((denE C P a env u).bind asBl) REq Q := p
  refine ⟨F, A, Ow, env, u, at_, p.bind.imp fun x H1 ⟨d1, u1, F1, A1, g1, rl1, r1, p1⟩ => ?_⟩
  cases r1 <;> try exact p1.elim
  exact ⟨_, rfl, Post.ret (show Post T Ow F1 A1 H1 (.ok _ u1) REq Q from p1) rl1 rfl⟩
theorem asBl_bl0 (b : Bool) : asBl (.bl b) = ret b := rfl
theorem bind_ok0 {α β : Type} (a : α) (u : U) (f : α → M β) : (Res.ok a u).bind f = f a u := rfl
theorem bind_assoc {α β γ : Type} (r : Res α) (f : α → M β) (g : β → M γ) : (r.bind f).bind g = r.bind fun a => M.bind (f a) g := by cases r <;> rfl
theorem post_cmp {R : Res Bool} {F H : Hp} {A : List Addr} {Ow : Addr → Option Nat} {Q : Bool → Hp → Prop} (p : Post T Ow F A H (R.bind fun c => M.bind (ret (D.bl c)) asBl) REq Q) : Post T Ow F A H R REq Q := by
  cases R with
  | ok c u => exact p
  | exc c a u => exact p
  | bad => exact p

theorem tT_E {a : CE} : ∀ σ H Q, tT T C P a σ H Q → tE T C P a σ H (fun x H1 => ∃ c, x = .bl c ∧ Q c H1) := fun σ H Q ⟨F, A, Ow, env, u, at_, p⟩ => by
  have p : Post T Ow F A H ((denE C P a env u).bind asBl) REq Q := p
  refine ⟨F, A, Ow, env, u, at_, p.bind.imp fun x H1 ⟨d1, u1, F1, A1, g1, rl1, r1, p1⟩ => ?_⟩
  cases r1 <;> try exact p1.elim
  exact ⟨_, rfl, Post.ret (show Post T Ow F1 A1 H1 (.ok _ u1) REq Q from p1) rl1 rfl⟩
theorem snd_tcmp (hK : X.K = T.K) (hu : X.A.units + 64 < cLine) {o : CmpO} {a b : Op} {a' b' : Expr} (ha : PE X a' (tO T C P a)) (hb : PE X b' (tO T C P b)) (hm : behindInMarks o.py b' = false) : PT X (.Compare a' [o.py] [b'] pos) (tT T C P (.cmp o a b)) := by
  by_cases h1 : o = .is_
  · subst h1
    exact (pt_cmpR (op_isD (T := T) false) ha hb hm).weak fun σ H Q h => cmp_key σ H _ (tT_E σ H Q h)
  · by_cases h2 : o = .isnot
    · subst h2
      exact (pt_cmpR (op_isD (T := T) true) ha hb hm).weak fun σ H Q h => cmp_key σ H _ (tT_E σ H Q h)
    · exact (pt_cmpR (op_cmp hK hu o ⟨h1, h2⟩) ha hb hm).weak fun σ H Q h => cmp_key σ H _ (tT_E σ H Q h)
theorem snd_tcmp2 (hK : X.K = T.K) (hu : X.A.units + 64 < cLine) {o o2 : CmpO} {a b c : CE} {a' b' c' : Expr} (h1 : o ≠ .is_ ∧ o ≠ .isnot) (h2 : o2 ≠ .is_ ∧ o2 ≠ .isnot) (ha : PE X a' (tE T C P a)) (hb : PE X b' (tE T C P b)) (hc : PE X c' (tE T C P c))
    (hm : lastMarks [o.py, o2.py] [b', c'] = false) : PT X (.Compare a' [o.py, o2.py] [b', c'] pos) (tT T C P (.cmp2 o o2 a b c)) := by
  refine (pt_chain (op_cmp hK hu o h1) (op_cmp hK hu o2 h2) ha hb hc hm).weak fun σ H Q h => ?_
  have z := cmp2_key σ H _ (tT_E σ H Q h)
  exact z
theorem snd_not {a : CE} {a' : Expr} (ha : PE X a' (tE T C P a)) : PE X (.UnaryOp .Not a' pos) (tE T C P (.notv a)) := by
  refine (pe_not ha).weak fun σ H Q ⟨F, A, Ow, env, u, at_, p⟩ => ?_
  have p : Post T Ow F A H ((denE C P a env u).bind fun d => M.bind (asBl d) fun b => ret (.bl (!b))) (RV T) Q := p
  refine ⟨F, A, Ow, env, u, at_, p.bind.imp fun x H1 ⟨d1, u1, F1, A1, g1, rl1, r1, p1⟩ => ?_⟩
  cases r1 <;> try exact p1.elim
  exact ⟨_, rfl, Post.ret (show Post T Ow F1 A1 H1 (.ok (.bl _) u1) (RV T) Q from p1) rl1 (.bl _)⟩
theorem snd_tnot {a : CE} {a' : Expr} (ha : PT X a' (tT T C P a)) : PT X (.UnaryOp .Not a' pos) (tT T C P (.notv a)) := by
  refine (pt_not ha).weak fun σ H Q ⟨F, A, Ow, env, u, at_, p⟩ => ?_
  have p : Post T Ow F A H (((denE C P a env u).bind fun d => M.bind (asBl d) fun b => ret (D.bl (!b))).bind asBl) REq Q := p
  refine ⟨F, A, Ow, env, u, at_, ?_⟩
  show Post T Ow F A H ((denE C P a env u).bind asBl) REq (fun c H1 => Q (!c) H1)
  revert p
  cases denE C P a env u with
  | ok d u1 =>
    cases d with
    | bl b => exact fun p c F' A' H' g rl h => by cases h; exact p _ F' A' H' g rl rfl
    | _ => exact fun p => p
  | exc c a u => exact fun p => p
  | bad => exact fun p => p
/-- a if c else b -/
theorem snd_ite {c a b : CE} {c' a' b' : Expr} (hc : PT X c' (tT T C P c)) (ha : PE X a' (tE T C P a)) (hb : PE X b' (tE T C P b)) : PE X (.IfExp c' a' b' pos) (tE T C P (.ite c a b)) := by
  refine (pe_ifExp hc ha hb).weak fun σ H Q ⟨F, A, Ow, env, u, at_, p⟩ => ?_
  have p : Post T Ow F A H ((denE C P c env u).bind fun d => M.bind (asBl d) fun k => if k = true then denE C P a env else denE C P b env) (RV T) Q := p
  rw [← bind_assoc] at p
  refine ⟨F, A, Ow, env, u, at_, p.bind.imp fun k H1 ⟨k', u1, F1, A1, g1, rl1, r1, p1⟩ => ?_⟩
  have r1 : k' = k := r1
  subst r1
  cases k' with
  | true =>
    rw [if_pos rfl] at p1 ⊢
    exact ⟨F1, A1, Ow, env, u1, at_.go g1 rl1, p1⟩
  | false =>
    rw [if_neg (by decide)] at p1 ⊢
    exact ⟨F1, A1, Ow, env, u1, at_.go g1 rl1, p1⟩
theorem pt_ifExp {c a b : Expr} {tc ta tb : TT} (hc : PT X c tc) (ha : PT X a ta) (hb : PT X b tb) : PT X (.IfExp c a b pos) (fun σ H Q => tc σ H fun k H1 => if k = true then ta σ H1 Q else tb σ H1 Q) := by
  refine ⟨fun pins s σ H Q I h => ?_⟩
  show wpAny _ _ (do if ← isTrue c X.env (eval c X.env) then isTrue a X.env (eval a X.env) else isTrue b X.env (eval b X.env)) _ _ _
  refine wpAny_bind (thn (hc.run pins s σ H _ I h) fun k s1 ⟨H1, I1, q1⟩ => ?_)
  cases k with
  | true => exact ha.run pins s1 σ H1 Q I1 q1
  | false => exact hb.run pins s1 σ H1 Q I1 q1
theorem snd_tite {c a b : CE} {c' a' b' : Expr} (hc : PT X c' (tT T C P c)) (ha : PT X a' (tT T C P a)) (hb : PT X b' (tT T C P b)) : PT X (.IfExp c' a' b' pos) (tT T C P (.ite c a b)) := by
  refine (pt_ifExp hc ha hb).weak fun σ H Q ⟨F, A, Ow, env, u, at_, p⟩ => ?_
  have p : Post T Ow F A H (((denE C P c env u).bind fun d => M.bind (asBl d) fun k => if k = true then denE C P a env else denE C P b env).bind asBl) REq Q := p
  rw [← bind_assoc, bind_assoc] at p
  refine ⟨F, A, Ow, env, u, at_, p.bind.imp fun k H1 ⟨k', u1, F1, A1, g1, rl1, r1, p1⟩ => ?_⟩
  have r1 : k' = k := r1
  subst r1
  cases k' with
  | true =>
    rw [if_pos rfl] at p1 ⊢
    exact ⟨F1, A1, Ow, env, u1, at_.go g1 rl1, p1⟩
  | false =>
    rw [if_neg (by decide)] at p1 ⊢
    exact ⟨F1, A1, Ow, env, u1, at_.go g1 rl1, p1⟩

/-! ### and, or -/
def tTAnd (T : Sta) (C : Cfg) (P : Phi) (e : CEs) : TT := tR T (fun env => M.bind (denAnd C P e env) asBl) (fun _ => REq)
def tTOr (T : Sta) (C : Cfg) (P : Phi) (e : CEs) : TT := tR T (fun env => M.bind (denOr C P e env) asBl) (fun _ => REq)
theorem bl_twice {α : Type} (r : Res D) (f : Bool → M α) : ((r.bind asBl).bind fun b => M.bind (ret (D.bl b)) fun d => M.bind (asBl d) f) = (r.bind asBl).bind f := by
  cases r with
  | ok d u => cases d <;> rfl
  | exc c a u => rfl
  | bad => rfl
theorem post_bl1 {R : Res D} {F H : Hp} {A : List Addr} {Ow : Addr → Option Nat} {Q : Bool → Hp → Prop} (p : Post T Ow F A H ((R.bind fun d => M.bind (asBl d) fun b => ret (D.bl b)).bind asBl) REq Q) : Post T Ow F A H (R.bind asBl) REq Q := by
  cases R with
  | ok d u => cases d <;> exact p
  | exc c a u => exact p
  | bad => exact p
theorem snd_and1 {a : CE} {a' : Expr} (ha : PE X a' (tE T C P a)) : PE X (.BoolOp .And [a'] pos) (tAndE T C P (.cons a .nil)) := by
  refine (pe_one ha).weak fun σ H Q ⟨F, A, Ow, env, u, at_, p⟩ => ?_
  have p : Post T Ow F A H ((denE C P a env u).bind fun d => M.bind (asBl d) fun b => ret (.bl b)) (RV T) Q := p
  refine ⟨F, A, Ow, env, u, at_, ?_⟩
  revert p
  cases denE C P a env u with
  | ok d u1 => cases d <;> (intro p; first | exact p | exact p.elim)
  | exc c a u => exact fun p => p
  | bad => exact fun p => p
theorem snd_or1 {a : CE} {a' : Expr} (ha : PE X a' (tE T C P a)) : PE X (.BoolOp .Or [a'] pos) (tOrE T C P (.cons a .nil)) := by
  refine (pe_one ha).weak fun σ H Q ⟨F, A, Ow, env, u, at_, p⟩ => ?_
  have p : Post T Ow F A H ((denE C P a env u).bind fun d => M.bind (asBl d) fun b => ret (.bl b)) (RV T) Q := p
  refine ⟨F, A, Ow, env, u, at_, ?_⟩
  revert p
  cases denE C P a env u with
  | ok d u1 => cases d <;> (intro p; first | exact p | exact p.elim)
  | exc c a u => exact fun p => p
  | bad => exact fun p => p
theorem snd_and {a b : CE} {es : CEs} {a' b' : Expr} {es' : List Expr} (ha : PE X a' (tE T C P a)) (hb : PE X (.BoolOp .And (b' :: es') pos) (tAndE T C P (.cons b es))) : PE X (.BoolOp .And (a' :: b' :: es') pos) (tAndE T C P (.cons a (.cons b es))) := by
  refine (pe_and ha hb).weak fun σ H Q ⟨F, A, Ow, env, u, at_, p⟩ => ?_
  have p : Post T Ow F A H ((denE C P a env u).bind fun d => M.bind (asBl d) fun k => if k = true then denAnd C P (.cons b es) env else ret (.bl false)) (RV T) Q := p
  refine ⟨F, A, Ow, env, u, at_, p.bind.imp fun x H1 ⟨d1, u1, F1, A1, g1, rl1, r1, p1⟩ => ?_⟩
  obtain ⟨k, rfl, rfl⟩ : ∃ k, d1 = .bl k ∧ x = .bl k := by cases r1 <;> first | exact ⟨_, rfl, rfl⟩ | exact p1.elim
  refine ⟨k, rfl, ?_⟩
  cases k with
  | true => rw [if_pos rfl]; exact ⟨F1, A1, Ow, env, u1, at_.go g1 rl1, p1⟩
  | false => rw [if_neg (by decide)]; exact Post.ret (show Post T Ow F1 A1 H1 (.ok (.bl false) u1) (RV T) Q from p1) rl1 (.bl _)
theorem snd_or {a b : CE} {es : CEs} {a' b' : Expr} {es' : List Expr} (ha : PE X a' (tE T C P a)) (hb : PE X (.BoolOp .Or (b' :: es') pos) (tOrE T C P (.cons b es))) : PE X (.BoolOp .Or (a' :: b' :: es') pos) (tOrE T C P (.cons a (.cons b es))) := by
  refine (pe_or ha hb).weak fun σ H Q ⟨F, A, Ow, env, u, at_, p⟩ => ?_
  have p : Post T Ow F A H ((denE C P a env u).bind fun d => M.bind (asBl d) fun k => if k = true then ret (.bl true) else denOr C P (.cons b es) env) (RV T) Q := p
  refine ⟨F, A, Ow, env, u, at_, p.bind.imp fun x H1 ⟨d1, u1, F1, A1, g1, rl1, r1, p1⟩ => ?_⟩
  obtain ⟨k, rfl, rfl⟩ : ∃ k, d1 = .bl k ∧ x = .bl k := by cases r1 <;> first | exact ⟨_, rfl, rfl⟩ | exact p1.elim
  refine ⟨k, rfl, ?_⟩
  cases k with
  | false => rw [if_neg (by decide)]; exact ⟨F1, A1, Ow, env, u1, at_.go g1 rl1, p1⟩
  | true => rw [if_pos rfl]; exact Post.ret (show Post T Ow F1 A1 H1 (.ok (.bl true) u1) (RV T) Q from p1) rl1 (.bl _)
theorem _root_.L2.PW.weak {X : Cx} {e : Expr} {t t' : TT} (h : PW X e t) (w : ∀ σ H Q, t' σ H Q → t σ H Q) : PW X e t' := ⟨fun wh pins s σ H Q I q => h.run wh pins s σ H Q I (w σ H Q q)⟩
theorem snd_tand1 {a : CE} {a' : Expr} (ha : PT X a' (tT T C P a)) : PW X (.BoolOp .And [a'] pos) (tTAnd T C P (.cons a .nil)) :=
  (pw_and1 ha).weak fun σ H Q ⟨F, A, Ow, env, u, at_, p⟩ => ⟨F, A, Ow, env, u, at_, post_bl1 p⟩
theorem snd_tor1 {a : CE} {a' : Expr} (ha : PT X a' (tT T C P a)) : PW X (.BoolOp .Or [a'] pos) (tTOr T C P (.cons a .nil)) :=
  (pw_or1 ha).weak fun σ H Q ⟨F, A, Ow, env, u, at_, p⟩ => ⟨F, A, Ow, env, u, at_, post_bl1 p⟩
theorem snd_tand {a b : CE} {es : CEs} {a' b' : Expr} {es' : List Expr} (ha : PT X a' (tT T C P a)) (hb : PW X (.BoolOp .And (b' :: es') pos) (tTAnd T C P (.cons b es))) : PW X (.BoolOp .And (a' :: b' :: es') pos) (tTAnd T C P (.cons a (.cons b es))) := by
  refine (pw_and ha hb).weak fun σ H Q ⟨F, A, Ow, env, u, at_, p⟩ => ?_
  have p : Post T Ow F A H (((denE C P a env u).bind fun d => M.bind (asBl d) fun k => if k = true then denAnd C P (.cons b es) env else ret (.bl false)).bind asBl) REq Q := p
  rw [← bind_assoc, bind_assoc] at p
  refine ⟨F, A, Ow, env, u, at_, p.bind.imp fun k H1 ⟨k', u1, F1, A1, g1, rl1, r1, p1⟩ => ?_⟩
  have r1 : k' = k := r1
  subst r1
  cases k' with
  | true => rw [if_pos rfl]; exact ⟨F1, A1, Ow, env, u1, at_.go g1 rl1, p1⟩
  | false => rw [if_neg (by decide)]; exact Post.ret (show Post T Ow F1 A1 H1 (.ok false u1) REq Q from p1) rl1 rfl
theorem snd_tor {a b : CE} {es : CEs} {a' b' : Expr} {es' : List Expr} (ha : PT X a' (tT T C P a)) (hb : PW X (.BoolOp .Or (b' :: es') pos) (tTOr T C P (.cons b es))) : PW X (.BoolOp .Or (a' :: b' :: es') pos) (tTOr T C P (.cons a (.cons b es))) := by
  refine (pw_or ha hb).weak fun σ H Q ⟨F, A, Ow, env, u, at_, p⟩ => ?_
  have p : Post T Ow F A H (((denE C P a env u).bind fun d => M.bind (asBl d) fun k => if k = true then ret (.bl true) else denOr C P (.cons b es) env).bind asBl) REq Q := p
  rw [← bind_assoc, bind_assoc] at p
  refine ⟨F, A, Ow, env, u, at_, p.bind.imp fun k H1 ⟨k', u1, F1, A1, g1, rl1, r1, p1⟩ => ?_⟩
  have r1 : k' = k := r1
  subst r1
  cases k' with
  | false => rw [if_neg (by decide)]; exact ⟨F1, A1, Ow, env, u1, at_.go g1 rl1, p1⟩
  | true => rw [if_pos rfl]; exact Post.ret (show Post T Ow F1 A1 H1 (.ok true u1) REq Q from p1) rl1 rfl

/-! ### lists of arguments, displays -/
def notStar : Expr → Bool
  | .Starred .. => false
  | _ => true
theorem star_cons {e : Expr} {es : List Expr} (env : PySem.Env) (h : notStar e = true) : starEach (e :: es) env = (false, eval e env) :: starEach es env := by
  cases e <;> first | rfl | cases h
theorem star_any {pos : Pos} {env : PySem.Env} : ∀ {es : List Expr}, es.all notStar = true → (backTo pos (starEach es env)).any (·.1) = false
  | [], _ => rfl
  | e :: es, h => by
    rw [List.all_cons, Bool.and_eq_true] at h
    rw [star_cons env h.1]
    exact star_any h.2
theorem snd_es_nil : PA X [] (tEs T C P .nil) :=
  pa_nil.weak fun σ H Q ⟨F, A, Ow, env, u, at_, p⟩ => Post.ret (show Post T Ow F A H (.ok [] u) (RVs T) Q from p) at_.rl .nil
theorem snd_es_cons {e : CE} {es : CEs} {e' : Expr} {es' : List Expr} (he : PE X e' (tE T C P e)) (hs : PA X es' (tEs T C P es)) (hn : notStar e' = true) : PA X (e' :: es') (tEs T C P (.cons e es)) := by
  refine (pa_cons he hs (star_cons X.env hn)).weak fun σ H Q ⟨F, A, Ow, env, u, at_, p⟩ => ?_
  have p : Post T Ow F A H ((denE C P e env u).bind fun d => M.bind (denEs C P es env) fun r => ret (d :: r)) (RVs T) Q := p
  refine ⟨F, A, Ow, env, u, at_, p.bind.imp fun x H1 ⟨d1, u1, F1, A1, g1, rl1, r1, p1⟩ => ?_⟩
  have p1 : Post T Ow F1 A1 H1 ((denEs C P es env u1).bind fun r => ret (d1 :: r)) (RVs T) Q := p1
  refine ⟨F1, A1, Ow, env, u1, at_.go g1 rl1, p1.bind.imp fun xs H2 ⟨d2, u2, F2, A2, g2, rl2, r2, p2⟩ => ?_⟩
  exact Post.ret (show Post T Ow F2 A2 H2 (.ok (d1 :: d2) u2) (RVs T) Q from p2) rl2 (.cons (Rep.mono g2.ext r1) r2)
theorem snd_os_nil : PA X [] (tOs T C P .nil) :=
  pa_nil.weak fun σ H Q ⟨F, A, Ow, env, u, at_, p⟩ => Post.ret (show Post T Ow F A H (.ok [] u) (ROs T Ow) Q from p) at_.rl trivial
theorem snd_os_cons {e : Op} {es : Ops} {e' : Expr} {es' : List Expr} (he : PE X e' (tO T C P e)) (hs : PA X es' (tOs T C P es)) (hn : notStar e' = true) : PA X (e' :: es') (tOs T C P (.cons e es)) := by
  refine (pa_cons he hs (star_cons X.env hn)).weak fun σ H Q ⟨F, A, Ow, env, u, at_, p⟩ => ?_
  have p : Post T Ow F A H ((denO C P e env u).bind fun d => M.bind (denOs C P es env) fun r => ret (d :: r)) (ROs T Ow) Q := p
  refine ⟨F, A, Ow, env, u, at_, (p.bind (R1 := RO T Ow)).imp fun x H1 ⟨d1, u1, F1, A1, g1, rl1, r1, p1⟩ => ?_⟩
  have p1 : Post T Ow F1 A1 H1 ((denOs C P es env u1).bind fun r => ret (d1 :: r)) (ROs T Ow) Q := p1
  refine ⟨F1, A1, Ow, env, u1, at_.go g1 rl1, (p1.bind (R1 := ROs T Ow)).imp fun xs H2 ⟨d2, u2, F2, A2, g2, rl2, r2, p2⟩ => ?_⟩
  exact Post.ret (show Post T Ow F2 A2 H2 (.ok (d1 :: d2) u2) (ROs T Ow) Q from p2) rl2 ⟨r1.go rl1 g2, r2⟩


theorem snd_tup {es : CEs} {es' : List Expr} {k : Nat} (hs : PA X es' (tEs T C P es)) (hl : es'.length ≤ sizeLine) (hd : ∀ (F : Hp) (A : List Addr) (env : Env) (u u1 : U) (ds : List D), denEs C P es env u = .ok ds u1 → ds.length = es'.length) : PE X (.Tuple es' k pos) (tE T C P (.tup es)) := by
  refine (pe_tup hs).weak fun σ H Q ⟨F, A, Ow, env, u, at_, p⟩ => ?_
  have p : Post T Ow F A H ((denEs C P es env u).bind fun ds => ret (D.tup ds)) (RV T) Q := p
  refine ⟨F, A, Ow, env, u, at_, ?_⟩
  revert p
  cases e : denEs C P es env u with
  | ok ds u1 =>
    intro p xs F1 A1 H1 g rl rs
    have p : Post T Ow F A H (.ok (.tup ds) u1) (RV T) Q := p
    refine ⟨by rw [← rs.length, hd F A env u u1 ds e]; exact hl, fun q hq => ?_⟩
    exact rl.newTup rs (Post.shift p g) hq
  | exc c a u => exact fun p => p
  | bad => exact fun p => p
theorem denEs_len : ∀ (es : CEs) (es' : List Expr) (n : Nat), True := fun _ _ _ => trivial
/-- a list display, just made -/
theorem snd_disp {es : CEs} {es' : List Expr} (hs : PA X es' (tEs T C P es)) (hl : es'.length ≤ sizeLine) (hd : ∀ (env : Env) (u u1 : U) (ds : List D), denEs C P es env u = .ok ds u1 → ds.length = es'.length) : PE X (.List es' pos) (tF T C P (.disp es)) := by
  refine (pe_lst hs).weak fun σ H Q ⟨F, A, Ow, env, u, at_, p⟩ => ?_
  have p : Post T Ow F A H (denEs C P es env u) (FrRep T Ow H) Q := p
  refine ⟨F, A, Ow, env, u, at_, ?_⟩
  revert p
  cases e : denEs C P es env u with
  | ok ds u1 =>
    intro p xs F1 A1 H1 g rl rs
    refine ⟨by rw [← rs.length, hd env u u1 ds e]; exact hl, fun q hq => ?_⟩
    exact rl.newFr rs (Post.shift p g) (fun _ h => g.none h) hq
  | exc c a u => exact fun p => p
  | bad => exact fun p => p
/-- a list that was just made, for good -/
theorem fr_tr {f : FE} {σ : L2.St} {H : Hp} {Q : VK} (h : tE T C P (.fr f) σ H Q) : tF T C P f σ H Q := by
  obtain ⟨F, A, Ow, env, u, at_, p⟩ := h
  have p : Post T Ow F A H ((denF C P f env u).bind fun ds => ret (D.lst ds)) (RV T) Q := p
  refine ⟨F, A, Ow, env, u, at_, ?_⟩
  show Post T Ow F A H (denF C P f env u) (FrRep T Ow H) Q
  revert p
  cases denF C P f env u with
  | ok ds u1 =>
    intro p v F1 A1 H1 g rl rs
    obtain ⟨q, vs, rfl, h1, h2, h3, h4, h0, h5⟩ := rs
    have p : Post T Ow F A H (.ok (.lst ds) u1) (RV T) Q := p
    -- the list goes into what stands for good
    refine p (.ref q) (upd F1 q (.lst vs)) A1 H1 ⟨g.ext.trans (ext_upd h2), g.fr, g.nw, fun b o e => ?_, g.kp⟩ ⟨fun b o e => ?_, rl.len, rl.nd, fun i b ds' e1 e2 => ?_, fun b i e => ?_⟩ (.lst upd_same (h5.mono (ext_upd h2)))
    · by_cases hb : b = q
      · subst hb
        exact .inr h0
      · rw [upd_ne hb] at e; exact g.nf b o e
    · by_cases hb : b = q
      · subst hb; rw [upd_same] at e; cases e; exact h1
      · rw [upd_ne hb] at e; exact rl.sub b o e
    · obtain ⟨c1, vs', c2, c3⟩ := rl.cel i b ds' e1 e2
      have hb : b ≠ q := fun z => h3 (by rw [← z]; exact List.mem_of_getElem? e1)
      exact ⟨by rw [upd_ne hb]; exact c1, vs', c2, c3.mono (ext_upd h2)⟩
    · obtain ⟨c1, c2, c3⟩ := rl.ow b i e
      have hb : b ≠ q := fun z => by rw [z, h4] at e; cases e
      exact ⟨by rw [upd_ne hb]; exact c1, c2, c3⟩
  | exc c a u => exact fun p => p
  | bad => exact fun p => p

/-! ### places, cuts -/
def plainIx : Expr → Bool
  | .Slice .. => false
  | _ => true
theorem snd_fr {f : FE} {e : Expr} (hf : PE X e (tF T C P f)) : PE X e (tE T C P (.fr f)) := hf.weak fun _ _ _ h => fr_tr h
theorem plainIx_ok {e : Expr} (h : plainIx e = true) : PlainIx e := by
  intro o i
  cases e <;> first | rfl | cases h
theorem snd_idx (hK : X.K = T.K) {a : Op} {i : CE} {a' i' : Expr} (ha : PE X a' (tO T C P a)) (hi : PE X i' (tE T C P i)) (hp : plainIx i' = true) : PE X (.Subscript a' i' pos) (tE T C P (.idx a i)) := by
  refine (pe_ix (ix_any hK) ha hi (plainIx_ok hp)).weak fun σ H Q ⟨F, A, Ow, env, u, at_, p⟩ => ?_
  have p : Post T Ow F A H ((denO C P a env u).bind fun x => M.bind (denE C P i env) fun y => fun u => lift (idxD u x y) u) (RV T) Q := p
  refine ⟨F, A, Ow, env, u, at_, (p.bind (R1 := RO T Ow)).imp fun x H1 ⟨d1, u1, F1, A1, g1, rl1, r1, p1⟩ => ?_⟩
  have p1 : Post T Ow F1 A1 H1 ((denE C P i env u1).bind fun y => fun u => lift (idxD u d1 y) u) (RV T) Q := p1
  refine ⟨F1, A1, Ow, env, u1, at_.go g1 rl1, p1.bind.imp fun y H2 ⟨d2, u2, F2, A2, g2, rl2, r2, p2⟩ => ?_⟩
  exact ⟨F2, A2, Ow, u2, d1, d2, rl2, r1.go rl1 g2, r2, p2⟩
theorem snd_b_no : PO X none (tB T C P .no) := ⟨fun pins s σ H Q I ⟨F, A, Ow, env, u, at_, p⟩ => po_none.run pins s σ H Q I (Post.ret (show Post T Ow F A H (.ok none u) REq Q from p) at_.rl rfl)⟩
theorem snd_b_so {e : CE} {e' : Expr} (he : PE X e' (tE T C P e)) : PO X (some e') (tB T C P (.so e)) := by
  refine ⟨fun pins s σ H Q I ⟨F, A, Ow, env, u, at_, p⟩ => (po_some he).run pins s σ H Q I ?_⟩
  have p : Post T Ow F A H ((denE C P e env u).bind fun d => lift (bndD d)) REq Q := p
  refine ⟨F, A, Ow, env, u, at_, p.bind.imp fun x H1 ⟨d1, u1, F1, A1, g1, rl1, r1, p1⟩ => ?_⟩
  cases r1 <;> try exact p1.elim
  exact ⟨_, rfl, Post.ret (show Post T Ow F1 A1 H1 (.ok (some _) u1) REq Q from p1) rl1 rfl⟩
theorem snd_slT (hK : X.K = T.K) {a : Op} {lo hi : OpB} {a' : Expr} {lo' hi' : Option Expr} {p2 : Pos} (ha : PE X a' (tO T C P a)) (hl : PO X lo' (tB T C P lo)) (hh : PO X hi' (tB T C P hi)) : PE X (.Subscript a' (.Slice lo' hi' none p2) pos) (tE T C P (.slT a lo hi)) := by
  refine (pe_slice (sl_bothD hK) ha hl hh).weak fun σ H Q ⟨F, A, Ow, env, u, at_, p⟩ => ?_
  have p : Post T Ow F A H ((denO C P a env u).bind fun x => M.bind (denB C P lo env) fun l => M.bind (denB C P hi env) fun h => match x with | .tup ds => ret (.tup (cut ds l h)) | .lst ds => ret (.lst (cut ds l h)) | _ => stuck) (RV T) Q := p
  refine ⟨F, A, Ow, env, u, at_, (p.bind (R1 := RO T Ow)).imp fun x H1 ⟨d1, u1, F1, A1, g1, rl1, r1, p1⟩ => ?_⟩
  have p1 : Post T Ow F1 A1 H1 ((denB C P lo env u1).bind fun l => M.bind (denB C P hi env) fun h => match d1 with | .tup ds => ret (.tup (cut ds l h)) | .lst ds => ret (.lst (cut ds l h)) | _ => stuck) (RV T) Q := p1
  refine ⟨F1, A1, Ow, env, u1, at_.go g1 rl1, (p1.bind (R1 := REq)).imp fun l H2 ⟨l', u2, F2, A2, g2, rl2, r2, p2⟩ => ?_⟩
  have r2 : l' = l := r2
  subst r2
  have p2 : Post T Ow F2 A2 H2 ((denB C P hi env u2).bind fun h => match d1 with | .tup ds => ret (.tup (cut ds l' h)) | .lst ds => ret (.lst (cut ds l' h)) | _ => stuck) (RV T) Q := p2
  refine ⟨F2, A2, Ow, env, u2, (at_.go g1 rl1).go g2 rl2, (p2.bind (R1 := REq)).imp fun h H3 ⟨h', u3, F3, A3, g3, rl3, r3, p3⟩ => ?_⟩
  have r3 : h' = h := r3
  subst r3
  cases d1 <;> try exact p3.elim
  · exact ⟨F3, A3, Ow, u3, _, _, rl3, (r1.go rl1 g2).go rl2 g3, .inl ⟨_, rfl, rfl⟩, p3⟩
  · exact ⟨F3, A3, Ow, u3, _, _, rl3, (r1.go rl1 g2).go rl2 g3, .inr ⟨_, rfl, rfl⟩, p3⟩
theorem snd_slF (hK : X.K = T.K) {a : Op} {lo hi : OpB} {a' : Expr} {lo' hi' : Option Expr} {p2 : Pos} (ha : PE X a' (tO T C P a)) (hl : PO X lo' (tB T C P lo)) (hh : PO X hi' (tB T C P hi)) : PE X (.Subscript a' (.Slice lo' hi' none p2) pos) (tF T C P (.sl a lo hi)) := by
  refine (pe_slice (sl_lstD hK) ha hl hh).weak fun σ H Q ⟨F, A, Ow, env, u, at_, p⟩ => ?_
  have p : Post T Ow F A H ((denO C P a env u).bind fun x => M.bind (denB C P lo env) fun l => M.bind (denB C P hi env) fun h => match lstOf x with | some ds => ret (cut ds l h) | none => stuck) (FrRep T Ow H) Q := p
  refine ⟨F, A, Ow, env, u, at_, (p.bind (R1 := RO T Ow)).imp fun x H1 ⟨d1, u1, F1, A1, g1, rl1, r1, p1⟩ => ?_⟩
  have p1 : Post T Ow F1 A1 H1 ((denB C P lo env u1).bind fun l => M.bind (denB C P hi env) fun h => match lstOf d1 with | some ds => ret (cut ds l h) | none => stuck) (FrRep T Ow H) Q := p1
  refine ⟨F1, A1, Ow, env, u1, at_.go g1 rl1, (p1.bind (R1 := REq)).imp fun l H2 ⟨l', u2, F2, A2, g2, rl2, r2, p2⟩ => ?_⟩
  have r2 : l' = l := r2
  subst r2
  have p2 : Post T Ow F2 A2 H2 ((denB C P hi env u2).bind fun h => match lstOf d1 with | some ds => ret (cut ds l' h) | none => stuck) (FrRep T Ow H) Q := p2
  refine ⟨F2, A2, Ow, env, u2, (at_.go g1 rl1).go g2 rl2, (p2.bind (R1 := REq)).imp fun h H3 ⟨h', u3, F3, A3, g3, rl3, r3, p3⟩ => ?_⟩
  have r3 : h' = h := r3
  subst r3
  have p3 : Post T Ow F3 A3 H3 ((match lstOf d1 with | some ds => ret (cut ds l' h') | none => stuck : M (List D)) u3) (FrRep T Ow H) Q := p3
  cases e : lstOf d1 with
  | none => rw [e] at p3; exact p3.elim
  | some ds =>
    rw [e] at p3
    exact ⟨F3, A3, Ow, u3, d1, ds, H, rl3, (r1.go rl1 g2).go rl2 g3, e, fun _ h => (g1.trans (g2.trans g3)).none h, p3⟩
theorem snd_revF (hK : X.K = T.K) {a : Op} {a' : Expr} {k : Nat} {p1 p2 p3 : Pos} (ha : PE X a' (tO T C P a)) : PE X (.Subscript a' (.Slice none none (some (.UnaryOp .USub (.Constant (.int 1) k p1) p2)) p3) pos) (tF T C P (.rev a)) := by
  refine (pe_revL ha).weak fun σ H Q ⟨F, A, Ow, env, u, at_, p⟩ => ?_
  have p : Post T Ow F A H ((denO C P a env u).bind fun x => match x with | .lst ds => ret ds.reverse | _ => stuck) (FrRep T Ow H) Q := p
  refine ⟨F, A, Ow, env, u, at_, (p.bind (R1 := RO T Ow)).imp fun x H1 ⟨d1, u1, F1, A1, g1, rl1, r1, p1⟩ => ?_⟩
  cases d1 <;> try exact p1.elim
  obtain ⟨q, vs, rfl, h1, h2⟩ := OpRep.sq rl1 r1
  exact ⟨q, vs, rfl, .inl (.inl h1), fun l hl => rl1.newFr h2.reverse p1 (fun _ h => g1.none h) hl⟩

/-! ### calls -/
/-- what a def of the text promises -/
def spF (T : Sta) (P : Phi) (n : Nat) (i : Nat) : Sp := fun vs H Q _ => vs.length = n ∧ ∃ F A u ds, Rl T F A (fun _ => none) H u ∧ Reps T F A ds vs ∧ Post T (fun _ => none) F A H (P i ds u) (RV T) Q
theorem spF_of {n i : Nat} {F H : Hp} {A : List Addr} {Ow : Addr → Option Nat} {u : U} {ds : List D} {vs : List V} {Q : VK} {E : XK} (rl : Rl T F A Ow H u) (rs : Reps T F A ds vs) (p : Post T Ow F A H (P i ds u) (RV T) Q) (hn : ∀ u, ds.length ≠ n → P i ds u = .bad) : spF T P n i vs H Q E := by
  have hl : ds.length = n := by
    by_cases h : ds.length = n
    · exact h
    · rw [hn u h] at p; exact p.elim
  refine ⟨by rw [← rs.length]; exact hl, F, A, u, ds, rl.noOwn, rs, ?_⟩
  revert p
  cases P i ds u with
  | ok d u1 => exact fun p b F' A' H' g rl' h => p b F' A' H' g (rl.back g rl') h
  | exc c a u => exact fun p => p
  | bad => exact fun p => p
theorem snd_call {k f n : Nat} {x : Str} {a : Addr} {fd : FuncData} {ps : List Str} {es : CEs} {e' : Expr} {es' : List Expr} {p : Pos} (Fn : FnOk X.prog X.w X.K X.mg X.base CX0 k a fd ps (spF T P n f)) (hr : Room k X.A) (hg : Gl X x) (hm : X.mg x = some (.ref a)) (hk : PySem.W.keepIn X.K (.ref a) = true) (hb : Binds X.K fd ps [])
    (ha : PA X (e' :: es') (tEs T C P es)) (hdb : (x == ("__debug__" : Str)) = false) (hs : (e' :: es').all notStar = true) (hn : ∀ ds u, ds.length ≠ n → P f ds u = .bad) : PE X (.Call (.Name x p) (e' :: es') [] pos) (tE T C P (.call f es)) := by
  have hs2 := hs
  rw [List.all_cons, Bool.and_eq_true] at hs2
  refine (pe_call (E := E0) Fn hr hg hm hk hb .nil pass0 ha hdb (star_cons X.env hs2.1) (star_any hs2.2)).weak fun σ H Q ⟨F, A, Ow, env, u, at_, p⟩ => ?_
  have p : Post T Ow F A H ((denEs C P es env u).bind fun ds => P f ds) (RV T) Q := p
  refine ⟨F, A, Ow, env, u, at_, p.bind.imp fun xs H1 ⟨d1, u1, F1, A1, g1, rl1, r1, p1⟩ => ?_⟩
  rw [List.append_nil]
  exact spF_of rl1 r1 p1 (hn d1)
theorem snd_callL {k i : Nat} {x : Str} {es : CEs} {e' : Expr} {es' : List Expr} {p : Pos} {np : Nat → Nat} (hA : ∀ f a, T.fnAd f = some a → L2.Held X.prog X.w X.K X.mg X.base k a (spF T P (np f) f)) (hr : Room k X.A) (hN : X.N[i]? = some x) (hv : Vis X.env.scope x)
    (ha : PA X (e' :: es') (tEs T C P es)) (hdb : (x == ("__debug__" : Str)) = false) (hcd : (x == ("__classdict__" : Str)) = false) (hs : (e' :: es').all notStar = true) (hn : ∀ f ds u, T.fnAd f ≠ none → ds.length ≠ np f → P f ds u = .bad) (inj : ∀ f f' a, T.fnAd f = some a → T.fnAd f' = some a → f = f') : PE X (.Call (.Name x p) (e' :: es') [] pos) (tE T C P (.callL i es)) := by
  have hs2 := hs
  rw [List.all_cons, Bool.and_eq_true] at hs2
  classical
  let S : Addr → Option Sp := fun a => if h : ∃ f, T.fnAd f = some a then some (spF T P (np h.choose) h.choose) else none
  have hS : ∀ f a, T.fnAd f = some a → S a = some (spF T P (np f) f) := fun f a e => by
    have h : ∃ f, T.fnAd f = some a := ⟨f, e⟩
    have e2 : h.choose = f := inj _ _ _ h.choose_spec e
    show (if h : ∃ f, T.fnAd f = some a then some (spF T P (np h.choose) h.choose) else none) = _
    rw [dif_pos h, e2]
  refine (pe_callA (i := i) (S := S) (fun a sp e => ?_) hr hN hv ha hdb hcd (star_cons X.env hs2.1) (star_any hs2.2)).weak fun σ H Q ⟨F, A, Ow, env, u, at_, p⟩ => ?_
  · have e' : (if h : ∃ f, T.fnAd f = some a then some (spF T P (np h.choose) h.choose) else none) = some sp := e
    by_cases h : ∃ f, T.fnAd f = some a
    · rw [dif_pos h] at e'
      cases e'
      exact hA _ _ h.choose_spec
    · rw [dif_neg h] at e'; cases e'
  · have p : Post T Ow F A H ((match getS env i with | .val (.fn f) => M.bind (denEs C P es env) fun ds => P f ds | _ => stuck : M D) u) (RV T) Q := p
    cases q : env[i]? with
    | none =>
      have e : getS env i = .no := by unfold getS; rw [q]; rfl
      rw [e] at p; exact p.elim
    | some s =>
      have e : getS env i = s := by unfold getS; rw [q]; rfl
      rw [e] at p
      cases s with
      | no => exact p.elim
      | own ds => exact p.elim
      | val d =>
        cases d <;> try exact p.elim
        rename_i f
        obtain ⟨v, h1, h2⟩ := at_.en.val i _ q
        cases h2 with
        | fn h2 =>
          have p : Post T Ow F A H ((denEs C P es env u).bind fun ds => P f ds) (RV T) Q := p
          refine ⟨_, _, h1, hS _ _ h2, F, A, Ow, env, u, at_, p.bind.imp fun xs H1 ⟨d1, u1, F1, A1, g1, rl1, r1, p1⟩ => ?_⟩
          exact spF_of rl1 r1 p1 fun u h => hn f d1 u (by rw [h2]; simp) h
/-- the keywords' values -/
theorem snd_ks_nil : PK X [] (tEs T C P .nil) := ⟨fun pos pins s σ H Q I ⟨F, A, Ow, env, u, at_, p⟩ => pk_nil.run pos pins s σ H Q I (Post.ret (show Post T Ow F A H (.ok [] u) (RVs T) Q from p) at_.rl .nil)⟩
theorem snd_ks_cons {e : CE} {es : CEs} {e' : Expr} {kws : List Keyword} {nm : Option Str} {kp : Pos} (he : PE X e' (tE T C P e)) (hs : PK X kws (tEs T C P es)) : PK X (⟨nm, e', kp⟩ :: kws) (tEs T C P (.cons e es)) := by
  refine ⟨fun pos pins s σ H Q I ⟨F, A, Ow, env, u, at_, p⟩ => (pk_cons he hs).run pos pins s σ H Q I ?_⟩
  have p : Post T Ow F A H ((denE C P e env u).bind fun d => M.bind (denEs C P es env) fun r => ret (d :: r)) (RVs T) Q := p
  refine ⟨F, A, Ow, env, u, at_, p.bind.imp fun x H1 ⟨d1, u1, F1, A1, g1, rl1, r1, p1⟩ => ?_⟩
  have p1 : Post T Ow F1 A1 H1 ((denEs C P es env u1).bind fun r => ret (d1 :: r)) (RVs T) Q := p1
  refine ⟨F1, A1, Ow, env, u1, at_.go g1 rl1, p1.bind.imp fun xs H2 ⟨d2, u2, F2, A2, g2, rl2, r2, p2⟩ => ?_⟩
  exact Post.ret (show Post T Ow F2 A2 H2 (.ok (d1 :: d2) u2) (RVs T) Q from p2) rl2 (.cons (Rep.mono g2.ext r1) r2)
theorem kw_all {pos : Pos} {env : PySem.Env} : ∀ {kws : List Keyword} {ks : List Str}, kws.map (·.arg) = ks.map some → (backToKw pos (keywordEach kws env)).all (·.1.isSome) = true ∧ (backToKw pos (keywordEach kws env)).filterMap (·.1) = ks ∧ (backToKw pos (keywordEach kws env)).any (·.1.isNone) = false
  | [], [], _ => ⟨rfl, rfl, rfl⟩
  | [], _ :: _, h => by cases h
  | _ :: _, [], h => by cases h
  | ⟨nm, e, kp⟩ :: kws, k :: ks, h => by
    rw [List.map_cons, List.map_cons] at h
    obtain ⟨h1, h2⟩ := List.cons.inj h
    obtain ⟨a1, a2, a3⟩ := kw_all (pos := pos) (env := env) h2
    have e1 : nm = some k := h1
    subst e1
    have e2 : backToKw pos (keywordEach (⟨some k, e, kp⟩ :: kws) env) = (some k, do let v ← eval e env; standAt pos; pure v) :: backToKw pos (keywordEach kws env) := rfl
    rw [e2]
    refine ⟨?_, ?_, ?_⟩
    · rw [List.all_cons, a1]; rfl
    · rw [List.filterMap_cons, a2]
    · rw [List.any_cons, a3]; rfl
theorem pe_callK0 {CX : CXT} {k : Nat} {f : Addr} {fd : FuncData} {ps ks : List Str} {sp : Sp} {E : XK} {x : Str} {p pos : Pos} {kws : List Keyword} {tk : TA} {g : List Value → List Value → List Value} {gV : List V → List V → List V}
    (F : FnOk X.prog X.w X.K X.mg X.base CX k f fd ps sp) (hr : Room k X.A) (hg : Gl X x) (hm : X.mg x = some (.ref f)) (hk : PySem.W.keepIn X.K (.ref f) = true) (hb : KBinds X.K fd ps ks g gV) (hx : Passes CX X E)
    (hkw : PK X kws tk) (hall : kws.map (·.arg) = ks.map some) (hdb : (x == ("__debug__" : Str)) = false) :
    PE X (.Call (.Name x p) [] kws pos) (tCallK sp gV E tNil tk) := by
  obtain ⟨a1, a2, a3⟩ := kw_all (pos := pos) (env := X.env) hall
  refine ⟨fun pins s σ H Q I h => ?_⟩
  refine wpAny_Call_Name_kw (ld_glob I hg hm ?_ hdb)
  refine PySem.W.callWith_KW0 (h₀ := X.base) I.ok.mod.kin hk a1 (thn (hkw.run pos pins s σ H _ I h) fun ws s2 ⟨zs, H2, I2, rz, q2⟩ => ⟨I2.kIn, ?_⟩) (by rw [a3]; rfl)
  rw [a2]
  exact run_fnk (us := []) F hr hb hx I2 .nil rz q2
/-- how a keyword call puts the values -/
def kG {α : Type} (n m : Nat) (p : List Nat) (us ws : List α) : List α := if us.length = n ∧ ws.length = m then p.filterMap fun k => (us ++ ws)[k]? else []
theorem paired_fm {α β : Type} {R : α → β → Prop} {xs : List α} {ys : List β} (h : Paired R xs ys) : ∀ p : List Nat, Paired R (p.filterMap fun k => xs[k]?) (p.filterMap fun k => ys[k]?)
  | [] => .nil
  | k :: p => by
    rw [List.filterMap_cons, List.filterMap_cons]
    cases e : xs[k]? with
    | none =>
      have e2 : ys[k]? = none := by
        have h1 := Paired.length h
        have h2 : xs.length ≤ k := List.getElem?_eq_none_iff.mp e
        exact List.getElem?_eq_none_iff.mpr (by omega)
      rw [e2]
      exact paired_fm h p
    | some x =>
      obtain ⟨y, e2, r⟩ := paired_get h e
      rw [e2]
      exact .cons r (paired_fm h p)
theorem kG_rel {n m : Nat} {p : List Nat} {vs : List V} {us : List Value} {zs : List V} {ws : List Value} (h1 : Vals vs us) (h2 : Vals zs ws) : Vals (kG n m p vs zs) (kG n m p us ws) := by
  unfold kG
  rw [h1.length, h2.length]
  split
  · exact paired_fm (h1.append h2) p
  · exact .nil
theorem mapM_reps {F : Hp} {A : List Addr} {ds : List D} {vs : List V} (h : Reps T F A ds vs) : ∀ {p : List Nat} {es : List D}, (p.mapM fun k => ds[k]?) = some es → Reps T F A es (p.filterMap fun k => vs[k]?)
  | [], es, e => by
    rw [List.mapM_nil] at e
    cases e
    exact .nil
  | k :: p, es, e => by
    rw [List.mapM_cons] at e
    cases q : ds[k]? with
    | none => rw [q] at e; cases e
    | some d =>
      rw [q] at e
      cases q2 : p.mapM fun k => ds[k]? with
      | none =>
        have e : (do let r ← p.mapM fun k => ds[k]?; pure (d :: r)) = some es := e
        rw [q2] at e; cases e
      | some r =>
        have e : (do let r ← p.mapM fun k => ds[k]?; pure (d :: r)) = some es := e
        rw [q2] at e
        cases e
        obtain ⟨v, h1, h2⟩ := h.get q
        rw [List.filterMap_cons, h1]
        exact .cons h2 (mapM_reps h q2)
theorem snd_callK {k f n j : Nat} {x : Str} {a : Addr} {fd : FuncData} {ps ks : List Str} {es ek : CEs} {es' : List Expr} {kws : List Keyword} {p : Pos} {pm : List Nat} (Fn : FnOk X.prog X.w X.K X.mg X.base CX0 k a fd ps (spF T P n f)) (hr : Room k X.A) (hg : Gl X x) (hm : X.mg x = some (.ref a)) (hk : PySem.W.keepIn X.K (.ref a) = true)
    (hb : KBinds X.K fd ps ks (kG es'.length ks.length pm) (kG es'.length ks.length pm)) (hC : C.perm[j]? = some pm)
    (ha : PA X es' (tEs T C P es)) (hkw : PK X kws (tEs T C P ek)) (hks : kws.map (·.arg) = ks.map some) (hdb : (x == ("__debug__" : Str)) = false) (hs : es'.all notStar = true) (hn : ∀ ds u, ds.length ≠ n → P f ds u = .bad)
    (hle : ∀ env u u1 ds, denEs C P es env u = .ok ds u1 → ds.length = es'.length) (hlk : ∀ env u u1 ds, denEs C P ek env u = .ok ds u1 → ds.length = ks.length) : PE X (.Call (.Name x p) es' kws pos) (tE T C P (.callK f j es ek)) := by
  have key : ∀ σ H Q, tE T C P (.callK f j es ek) σ H Q → tCallK (spF T P n f) (kG es'.length ks.length pm) E0 (tEs T C P es) (tEs T C P ek) σ H Q := fun σ H Q ⟨F, A, Ow, env, u, at_, p⟩ => by
    have p : Post T Ow F A H ((denEs C P es env u).bind fun a => M.bind (denEs C P ek env) fun b => M.bind (lift (permOf C j (a ++ b))) fun ds => P f ds) (RV T) Q := p
    refine ⟨F, A, Ow, env, u, at_, ?_⟩
    cases e1 : denEs C P es env u with
    | exc c a u => rw [e1] at p; exact p
    | bad => rw [e1] at p; exact p
    | ok d1 u1 =>
      rw [e1] at p
      intro xs F1 A1 H1 g1 rl1 r1
      have p1 : Post T Ow F1 A1 H1 ((denEs C P ek env u1).bind fun b => M.bind (lift (permOf C j (d1 ++ b))) fun ds => P f ds) (RV T) Q := Post.shift p g1
      refine ⟨F1, A1, Ow, env, u1, at_.go g1 rl1, ?_⟩
      cases e2 : denEs C P ek env u1 with
      | exc c a u => rw [e2] at p1; exact p1
      | bad => rw [e2] at p1; exact p1
      | ok d2 u2 =>
        rw [e2] at p1
        intro zs F2 A2 H2 g2 rl2 r2
        have p2 : Post T Ow F2 A2 H2 ((lift (permOf C j (d1 ++ d2)) u2).bind fun ds => P f ds) (RV T) Q := Post.shift p1 g2
        cases e3 : permOf C j (d1 ++ d2) with
        | none => rw [e3] at p2; exact p2.elim
        | some ds =>
          rw [e3] at p2
          unfold permOf at e3
          rw [hC] at e3
          have r3 := mapM_reps ((Reps.mono g2.ext r1).append r2) e3
          have l1 : xs.length = es'.length := by rw [← r1.length]; exact hle env u u1 d1 e1
          have l2 : zs.length = ks.length := by rw [← r2.length]; exact hlk env u1 u2 d2 e2
          have e4 : kG es'.length ks.length pm xs zs = pm.filterMap fun k => (xs ++ zs)[k]? := by
            unfold kG
            rw [if_pos ⟨l1, l2⟩]
          rw [e4]
          exact spF_of rl2 r3 p2 (hn ds)
  cases es' with
  | nil =>
    refine (pe_callK0 (E := E0) Fn hr hg hm hk hb pass0 hkw hks hdb).weak fun σ H Q h => ?_
    obtain ⟨F, A, Ow, env, u, at_, p⟩ := key σ H Q h
    -- no positional argument is worked out
    cases e1 : denEs C P es env u with
    | exc c a u => rw [e1] at p; exact p.elim
    | bad => rw [e1] at p; exact p.elim
    | ok d1 u1 =>
      have l := hle env u u1 d1 e1
      have : d1 = [] := List.length_eq_zero_iff.mp l
      subst this
      have e0 : es = .nil := by
        cases es with
        | nil => rfl
        | cons e es =>
          exfalso
          have e1 : ((denE C P e env u).bind fun d => M.bind (denEs C P es env) fun r => ret (d :: r)) = .ok [] u1 := e1
          cases q1 : denE C P e env u with
          | exc c a u => rw [q1] at e1; cases e1
          | bad => rw [q1] at e1; cases e1
          | ok d u2 =>
            rw [q1] at e1
            have e1 : ((denEs C P es env u2).bind fun r => ret (d :: r)) = .ok [] u1 := e1
            cases q2 : denEs C P es env u2 with
            | exc c a u => rw [q2] at e1; cases e1
            | bad => rw [q2] at e1; cases e1
            | ok r u3 => rw [q2] at e1; cases e1
      subst e0
      have p2 : Post T Ow F A H (.ok [] u) (RVs T) (fun vs H1 => tEs T C P ek σ H1 fun zs H2 => spF T P n f (kG ([] : List Expr).length ks.length pm vs zs) H2 Q E0) := p
      exact Post.ret p2 at_.rl .nil
  | cons e' es' =>
    have hs2 := hs
    rw [List.all_cons, Bool.and_eq_true] at hs2
    obtain ⟨a1, a2, a3⟩ := kw_all (pos := pos) (env := X.env) hks
    refine (pe_callK (E := E0) Fn hr hg hm hk hb pass0 ha hkw a1 a2 hdb (star_cons X.env hs2.1) ?_).weak key
    rw [a3, star_any hs]; rfl

/-! ### builtin functions by name -/
def Bi.nm : Bi → String
  | .len => "len" | .sum => "sum" | .max => "max" | .min => "min" | .max2 => "max" | .min2 => "min"
  | .abs => "abs" | .int => "int" | .all => "all" | .any => "any" | .tuple => "tuple" | .gcd => "gcd" | .divmod => "divmod"
def Bi.isTy : Bi → Bool
  | .int | .tuple => true
  | _ => false
theorem snd_bi (hK : X.K = T.K) (hc : X.calm = true) {b : Bi} {es : Ops} {e' : Expr} {es' : List Expr} {p : Pos} (hg : Gl X (Str.ofString b.nm)) (hm : if b = .gcd then X.mg (Str.ofString b.nm) = some (.builtin "math.gcd") else X.mg (Str.ofString b.nm) = none)
    (ha : PA X (e' :: es') (tOs T C P es)) (hs : (e' :: es').all notStar = true) : PE X (.Call (.Name (Str.ofString b.nm) p) (e' :: es') [] pos) (tE T C P (.bi b es)) := by
  have hs2 := hs
  rw [List.all_cons, Bool.and_eq_true] at hs2
  have key : ∀ σ H Q, tE T C P (.bi b es) σ H Q → tCB (fun xs H Q => ∃ F A Ow u ds, Rl T F A Ow H u ∧ OpReps T F A Ow H ds xs ∧ Post T Ow F A H (lift (b.run u ds) u) (RV T) Q) (tOs T C P es) σ H Q := fun σ H Q ⟨F, A, Ow, env, u, at_, p⟩ => by
    have p : Post T Ow F A H ((denOs C P es env u).bind fun ds => fun u => lift (b.run u ds) u) (RV T) Q := p
    exact ⟨F, A, Ow, env, u, at_, (p.bind (R1 := ROs T Ow)).imp fun xs H1 ⟨d1, u1, F1, A1, g1, rl1, r1, p1⟩ => ⟨F1, A1, Ow, u1, d1, rl1, r1, p1⟩⟩
  have st := star_cons (es := es') X.env hs2.1
  have sa := star_any (pos := pos) (env := X.env) hs2.2
  cases b with
  | gcd => exact (pe_callBfun (call_bi hK hc .gcd) hg (by rw [if_pos rfl] at hm; exact hm) ha (by decide +kernel) st sa).weak key
  | int => exact (pe_callTy (T := "int") (call_bi hK hc .int) hg (by rw [if_neg (by decide)] at hm; exact hm) (by decide +kernel) ha (by decide +kernel) (by decide +kernel) st sa).weak key
  | tuple => exact (pe_callTy (T := "tuple") (call_bi hK hc .tuple) hg (by rw [if_neg (by decide)] at hm; exact hm) (by decide +kernel) ha (by decide +kernel) (by decide +kernel) st sa).weak key
  | len => exact (pe_callB (id := "len") (call_bi hK hc .len) hg (by rw [if_neg (by decide)] at hm; exact hm) (by decide +kernel) ha (by decide +kernel) (by decide +kernel) st sa).weak key
  | sum => exact (pe_callB (id := "sum") (call_bi hK hc .sum) hg (by rw [if_neg (by decide)] at hm; exact hm) (by decide +kernel) ha (by decide +kernel) (by decide +kernel) st sa).weak key
  | max => exact (pe_callB (id := "max") (call_bi hK hc .max) hg (by rw [if_neg (by decide)] at hm; exact hm) (by decide +kernel) ha (by decide +kernel) (by decide +kernel) st sa).weak key
  | min => exact (pe_callB (id := "min") (call_bi hK hc .min) hg (by rw [if_neg (by decide)] at hm; exact hm) (by decide +kernel) ha (by decide +kernel) (by decide +kernel) st sa).weak key
  | max2 => exact (pe_callB (id := "max") (call_bi hK hc .max2) hg (by rw [if_neg (by decide)] at hm; exact hm) (by decide +kernel) ha (by decide +kernel) (by decide +kernel) st sa).weak key
  | min2 => exact (pe_callB (id := "min") (call_bi hK hc .min2) hg (by rw [if_neg (by decide)] at hm; exact hm) (by decide +kernel) ha (by decide +kernel) (by decide +kernel) st sa).weak key
  | abs => exact (pe_callB (id := "abs") (call_bi hK hc .abs) hg (by rw [if_neg (by decide)] at hm; exact hm) (by decide +kernel) ha (by decide +kernel) (by decide +kernel) st sa).weak key
  | all => exact (pe_callB (id := "all") (call_bi hK hc .all) hg (by rw [if_neg (by decide)] at hm; exact hm) (by decide +kernel) ha (by decide +kernel) (by decide +kernel) st sa).weak key
  | any => exact (pe_callB (id := "any") (call_bi hK hc .any) hg (by rw [if_neg (by decide)] at hm; exact hm) (by decide +kernel) ha (by decide +kernel) (by decide +kernel) st sa).weak key
  | divmod => exact (pe_callB (id := "divmod") (call_bi hK hc .divmod) hg (by rw [if_neg (by decide)] at hm; exact hm) (by decide +kernel) ha (by decide +kernel) (by decide +kernel) st sa).weak key

/-! ### isinstance -/
theorem pe_ty {t : Ty} (hg : Gl X (Str.ofString t.name)) (hm : X.mg (Str.ofString t.name) = none) : PE X (.Name (Str.ofString t.name) pos) (tC (.ty t.name)) := by
  cases t <;> exact pe_bltn (v := .ty _) hg hm (by decide +kernel) rfl (by decide +kernel) (by decide +kernel)
/-- the names of types -/
def tyNames (X : Cx) : List Ty → List Expr → Prop
  | [], [] => True
  | t :: ts, .Name x _ :: es => x = Str.ofString t.name ∧ Gl X x ∧ X.mg x = none ∧ tyNames X ts es
  | _, _ => False
theorem pa_tys : ∀ {ts : List Ty} {es : List Expr}, tyNames X ts es → PA X es (fun _ H Q => Q (ts.map fun t => V.ty t.name) H)
  | [], [], _ => ⟨fun pos pins s σ H Q I q => pa_nil.run pos pins s σ H Q I q⟩
  | t :: ts, .Name x p :: es, h => by
    obtain ⟨rfl, hg, hm, h⟩ := h
    exact (pa_cons (pe_ty hg hm) (pa_tys h) (star_cons X.env rfl)).weak fun σ H Q q => q
theorem snd_isi (hK : X.K = T.K) {a : CE} {a' t' : Expr} {ts : List Ty} {sole : Bool} {p : Pos} (hg : Gl X "isinstance") (hm : X.mg "isinstance" = none) (ha : PE X a' (tE T C P a)) (hn : notStar a' = true)
    (ht : if sole = true then ∃ t x q, ts = [t] ∧ t' = .Name x q ∧ tyNames X [t] [t'] else ∃ es k q, t' = .Tuple es k q ∧ tyNames X ts es ∧ ts.length ≤ 100) : PE X (.Call (.Name "isinstance" p) [a', t'] [] pos) (tE T C P (.isi a ts sole)) := by
  have key : ∀ (tt : TE) σ H Q, (∀ x H1, (∃ F A Ow u d, Rl T F A Ow H1 u ∧ Rep T F A d x ∧ Post T Ow F A H1 (lift (isAny ts d) u) RB Q) → tt σ H1 fun c H2 => ∃ F A Ow u d x' c', [x, c] = [x', c'] ∧ Rl T F A Ow H2 u ∧ Rep T F A d x' ∧
      (if sole then ∃ t, ts = [t] ∧ c' = V.ty t.name else ∃ p, c' = .ref p ∧ H2 p = some (.tup (ts.map fun t => V.ty t.name))) ∧ Post T Ow F A H2 (lift (isAny ts d) u) RB Q) →
      tE T C P (.isi a ts sole) σ H Q → tCB (fun xs H Q => ∃ F A Ow u d x c, xs = [x, c] ∧ Rl T F A Ow H u ∧ Rep T F A d x ∧
      (if sole then ∃ t, ts = [t] ∧ c = V.ty t.name else ∃ p, c = .ref p ∧ H p = some (.tup (ts.map fun t => V.ty t.name))) ∧ Post T Ow F A H (lift (isAny ts d) u) RB Q) (tCons (tE T C P a) (tCons tt tNil)) σ H Q := fun tt σ H Q hh ⟨F, A, Ow, env, u, at_, p⟩ => by
    have p : Post T Ow F A H ((denE C P a env u).bind fun d => M.bind (lift (isAny ts d)) fun b => ret (D.bl b)) (RV T) Q := p
    refine ⟨F, A, Ow, env, u, at_, p.bind.imp fun x H1 ⟨d1, u1, F1, A1, g1, rl1, r1, p1⟩ => ?_⟩
    refine hh x H1 ⟨F1, A1, Ow, u1, d1, rl1, r1, ?_⟩
    have p1 : Post T Ow F1 A1 H1 ((lift (isAny ts d1) u1).bind fun b => ret (D.bl b)) (RV T) Q := p1
    cases e : isAny ts d1 with
    | none => rw [e] at p1; exact p1.elim
    | some b =>
      rw [e] at p1
      intro v F' A' H' g rl hv
      have hv : v = V.bl b := hv
      subst hv
      exact (show Post T Ow F1 A1 H1 (.ok (.bl b) u1) (RV T) Q from p1) _ F' A' H' g rl (.bl b)
  cases sole with
  | true =>
    rw [if_pos rfl] at ht
    obtain ⟨t, x, q, rfl, rfl, ht⟩ := ht
    obtain ⟨rfl, hg1, hm1, _⟩ := ht
    refine (pe_callB (id := "isinstance") (call_isiD (T := T) hK [t] true) hg hm (by decide +kernel) (pa_cons ha (pa_cons (pe_ty hg1 hm1) pa_nil (star_cons X.env rfl)) (star_cons X.env hn)) (by decide +kernel) (by decide +kernel) (star_cons X.env hn) (star_any (es := [_]) rfl)).weak fun σ H Q h => ?_
    refine key _ σ H Q (fun x H1 ⟨F, A, Ow, u, d, rl, r, p⟩ => ?_) h
    exact ⟨F, A, Ow, u, d, x, _, rfl, rl, r, by rw [if_pos rfl]; exact ⟨t, rfl, rfl⟩, p⟩
  | false =>
    rw [if_neg (by decide)] at ht
    obtain ⟨es, k, q, rfl, ht, hl⟩ := ht
    refine (pe_callB (id := "isinstance") (call_isiD (T := T) hK ts false) hg hm (by decide +kernel) (pa_cons ha (pa_cons (pe_tup (pa_tys ht)) pa_nil (star_cons X.env rfl)) (star_cons X.env hn)) (by decide +kernel) (by decide +kernel) (star_cons X.env hn) (star_any (es := [_]) rfl)).weak fun σ H Q h => ?_
    refine key _ σ H Q (fun x H1 ⟨F, A, Ow, u, d, rl, r, p⟩ => ?_) h
    refine ⟨by rw [List.length_map, sizeLine_eq]; omega, fun l hl' => ?_⟩
    obtain ⟨rl2, g⟩ := rl.newH (o := .tup (ts.map fun t => V.ty t.name)) hl'
    exact ⟨F, A, Ow, u, d, x, _, rfl, rl2, r, by rw [if_neg (by decide)]; exact ⟨l, rfl, upd_same⟩, Post.shift p g⟩

/-! ### a new shared list -/
theorem snd_newc {es : CEs} {es' : List Expr} (hs : PA X es' (tEs T C P es)) (hl : es'.length ≤ sizeLine) (hd : ∀ (env : Env) (u u1 : U) (ds : List D), denEs C P es env u = .ok ds u1 → ds.length = es'.length) : PE X (.List es' pos) (tE T C P (.newc es)) := by
  refine (pe_lst hs).weak fun σ H Q ⟨F, A, Ow, env, u, at_, p⟩ => ?_
  have p : Post T Ow F A H ((denEs C P es env u).bind fun ds => fun u => .ok (.cell u.length) (u ++ [ds])) (RV T) Q := p
  refine ⟨F, A, Ow, env, u, at_, ?_⟩
  revert p
  cases e : denEs C P es env u with
  | ok ds u1 =>
    intro p xs F1 A1 H1 g rl rs
    refine ⟨by rw [← rs.length, hd env u u1 ds e]; exact hl, fun q hq => ?_⟩
    have p : Post T Ow F1 A1 H1 (.ok (.cell u1.length) (u1 ++ [ds])) (RV T) Q := Post.shift p g
    have hA := rl.notA hq
    have hF := rl.notF hq
    obtain ⟨rl2, g2⟩ := rl.newH (o := .lst xs) hq
    have ex : Ext F1 A1 F1 (A1 ++ [q]) := ⟨fun _ _ h => h, fun i p h => by rw [List.getElem?_append_left (List.getElem?_eq_some_iff.mp h).1]; exact h⟩
    refine p (.ref q) F1 (A1 ++ [q]) (upd H1 q (.lst xs)) ⟨ex, g2.fr, fun b hb => ?_, fun _ _ h => .inl h, g2.kp⟩ ⟨rl2.sub, by rw [List.length_append, List.length_append, rl.len]; rfl, ?_, fun i b ds' h1 h2 => ?_, fun b i h => ?_⟩ (.cell ?_)
    · rcases List.mem_append.mp hb with h | h
      · exact .inl h
      · rw [List.mem_singleton.mp h]; exact .inr hq
    · rw [List.nodup_append]
      refine ⟨rl.nd, by simp, fun a ha b hb e => ?_⟩
      rw [List.mem_singleton.mp hb] at e
      exact hA (e ▸ ha)
    · by_cases hi : i < A1.length
      · rw [List.getElem?_append_left hi] at h1
        rw [List.getElem?_append_left (by rw [← rl.len]; exact hi)] at h2
        obtain ⟨c1, vs, c2, c3⟩ := rl2.cel i b ds' h1 h2
        exact ⟨c1, vs, c2, c3.mono ex⟩
      · have hi2 : i = A1.length := by
          have := (List.getElem?_eq_some_iff.mp h1).1
          rw [List.length_append] at this
          simp at this
          omega
        subst hi2
        rw [List.getElem?_append_right (Nat.le_refl _), Nat.sub_self] at h1
        rw [rl.len, List.getElem?_append_right (Nat.le_refl _), Nat.sub_self] at h2
        simp at h1 h2
        subst h1 h2
        exact ⟨hF, xs, upd_same, rs.mono ex⟩
    · obtain ⟨c1, c2, c3⟩ := rl2.ow b i h
      refine ⟨c1, fun z => ?_, c3⟩
      rcases List.mem_append.mp z with h' | h'
      · exact c2 h'
      · rw [List.mem_singleton.mp h'] at h
        rw [rl.notO hq] at h; cases h
    · rw [← rl.len, List.getElem?_append_right (Nat.le_refl _), Nat.sub_self]; rfl
  | exc c a u => exact fun p => p
  | bad => exact fun p => p

/-! ### lists made of lists -/
theorem op_catD : OpR X (binaryOp .Add) (fun x y H Q => ∃ F A Ow u a b H0, Rl T F A Ow H u ∧ OpRep T F A Ow H a x ∧ OpRep T F A Ow H b y ∧ (∀ q, H q = none → H0 q = none) ∧
    Post T Ow F A H ((match a, b with | .lst x, .lst y => if x.length + y.length ≤ line then ret (x ++ y) else stuck | _, _ => stuck : M (List D)) u) (FrRep T Ow H0) Q) := by
  intro pins s σ H x y v w Q I rx ry ⟨F, A, Ow, u, a, b, H0, rl, ra, rb, h0, p⟩
  cases a <;> try exact p.elim
  cases b <;> try exact p.elim
  rename_i d1 d2
  have p : Post T Ow F A H ((if d1.length + d2.length ≤ line then ret (d1 ++ d2) else stuck : M (List D)) u) (FrRep T Ow H0) Q := p
  by_cases h : d1.length + d2.length ≤ line
  · rw [if_pos h] at p
    obtain ⟨l, vs, rfl, h1, r1⟩ := ra.sq rl
    obtain ⟨m, ws, rfl, h2, r2⟩ := rb.sq rl
    exact op_cat pins s σ H _ _ v w Q I rx ry ⟨l, m, vs, ws, rfl, rfl, h1, h2, by rw [← r1.length, ← r2.length, ← line_eq]; exact h, fun q hq => rl.newFr (r1.append r2) p h0 hq⟩
  · rw [if_neg h] at p; exact p.elim
theorem snd_cat {a b : Op} {a' b' : Expr} (ha : PE X a' (tO T C P a)) (hb : PE X b' (tO T C P b)) : PE X (.BinOp a' .Add b' pos) (tF T C P (.cat a b)) := by
  refine (pe_op (op_catD (T := T)) ha hb).weak fun σ H Q ⟨F, A, Ow, env, u, at_, p⟩ => ?_
  have p : Post T Ow F A H ((denO C P a env u).bind fun a => M.bind (denO C P b env) fun b => match a, b with | .lst x, .lst y => if x.length + y.length ≤ line then ret (x ++ y) else stuck | _, _ => stuck) (FrRep T Ow H) Q := p
  refine ⟨F, A, Ow, env, u, at_, (p.bind (R1 := RO T Ow)).imp fun x H1 ⟨d1, u1, F1, A1, g1, rl1, r1, p1⟩ => ?_⟩
  have p1 : Post T Ow F1 A1 H1 ((denO C P b env u1).bind fun b => match d1, b with | .lst x, .lst y => if x.length + y.length ≤ line then ret (x ++ y) else stuck | _, _ => stuck) (FrRep T Ow H) Q := p1
  refine ⟨F1, A1, Ow, env, u1, at_.go g1 rl1, (p1.bind (R1 := RO T Ow)).imp fun y H2 ⟨d2, u2, F2, A2, g2, rl2, r2, p2⟩ => ?_⟩
  exact ⟨F2, A2, Ow, u2, d1, d2, H, rl2, r1.go rl1 g2, r2, fun _ h => (g1.trans g2).none h, p2⟩
/-- list(xs), list(t) -/
theorem call_lstD (hK : X.K = T.K) : CallR X (.type "list") (fun xs H Q => ∃ F A Ow u ds H0, Rl T F A Ow H u ∧ OpReps T F A Ow H [ds] xs ∧ (∀ q, H q = none → H0 q = none) ∧ Post T Ow F A H ((match ds with | .lst ds | .tup ds => ret ds | _ => stuck : M (List D)) u) (FrRep T Ow H0) Q) := by
  intro pins s σ H xs us Q I rx ⟨F, A, Ow, u, d, H0, rl, ra, h0, p⟩
  obtain ⟨v, rfl, h⟩ := ra.one
  cases d <;> try exact p.elim
  · obtain ⟨a, vs, rfl, h1, h2⟩ := h.st rl
    exact call_list_of pins s σ H _ us Q I rx ⟨a, vs, rfl, .inr (by rw [hK]; exact h1), fun l hl => rl.newFr h2 p h0 hl⟩
  · obtain ⟨a, vs, rfl, h1, h2⟩ := h.sq rl
    exact call_list_of pins s σ H _ us Q I rx ⟨a, vs, rfl, .inl (.inl (.inl h1)), fun l hl => rl.newFr h2 p h0 hl⟩
theorem snd_lst (hK : X.K = T.K) {a : Op} {a' : Expr} {p : Pos} (hg : Gl X "list") (hm : X.mg "list" = none) (ha : PE X a' (tO T C P a)) (hn : notStar a' = true) : PE X (.Call (.Name "list" p) [a'] [] pos) (tF T C P (.lst a)) := by
  refine (pe_callTy (T := "list") (call_lstD (T := T) hK) hg hm (by decide +kernel) (pa_cons ha pa_nil (star_cons X.env hn)) (by decide +kernel) (by decide +kernel) (star_cons X.env hn) rfl).weak fun σ H Q ⟨F, A, Ow, env, u, at_, p⟩ => ?_
  have p : Post T Ow F A H ((denO C P a env u).bind fun d => match d with | .lst ds | .tup ds => ret ds | _ => stuck) (FrRep T Ow H) Q := p
  exact ⟨F, A, Ow, env, u, at_, (p.bind (R1 := RO T Ow)).imp fun x H1 ⟨d1, u1, F1, A1, g1, rl1, r1, p1⟩ => ⟨F1, A1, Ow, u1, d1, H, rl1, ⟨r1, trivial⟩, fun _ h => g1.none h, p1⟩⟩
/-- xs * n, just made -/
theorem op_repD : OpR X (binaryOp .Mult) (fun x y H Q => ∃ F A Ow u a b H0, Rl T F A Ow H u ∧ OpRep T F A Ow H a x ∧ Rep T F A b y ∧ (∀ q, H q = none → H0 q = none) ∧ Post T Ow F A H (repD a b u) (FrRep T Ow H0) Q) := by
  intro pins s σ H x y v w Q I rx ry ⟨F, A, Ow, u, a, b, H0, rl, ra, rb, h0, p⟩
  cases a <;> try exact p.elim
  cases rb <;> try exact p.elim
  rename_i ds k
  have p : Post T Ow F A H ((if 0 ≤ k ∧ k ≤ 1000 ∧ ds.length ≤ 1000 then ret (List.replicate k.toNat ds).flatten else stuck : M (List D)) u) (FrRep T Ow H0) Q := p
  by_cases h : 0 ≤ k ∧ k ≤ 1000 ∧ ds.length ≤ 1000
  · rw [if_pos h] at p
    obtain ⟨l, vs, rfl, h1, r1⟩ := ra.sq rl
    refine op_rep pins s σ H _ _ v w Q I rx ry ⟨l, k, vs, rfl, rfl, h1, by omega, by omega, ?_, fun q hq => rl.newFr (r1.rep k.toNat) p h0 hq⟩
    rw [← r1.length, sizeLine_eq]
    have a1 : ds.length * k.toNat ≤ 1000 * 1000 := Nat.mul_le_mul (by omega) (by omega)
    omega
  · rw [if_neg h] at p; exact p.elim
theorem snd_rep {a : Op} {n : CE} {a' n' : Expr} (ha : PE X a' (tO T C P a)) (hb : PE X n' (tE T C P n)) : PE X (.BinOp a' .Mult n' pos) (tF T C P (.rep a n)) := by
  refine (pe_op (op_repD (T := T)) ha hb).weak fun σ H Q ⟨F, A, Ow, env, u, at_, p⟩ => ?_
  have p : Post T Ow F A H ((denO C P a env u).bind fun a => M.bind (denE C P n env) fun b => repD a b) (FrRep T Ow H) Q := p
  refine ⟨F, A, Ow, env, u, at_, (p.bind (R1 := RO T Ow)).imp fun x H1 ⟨d1, u1, F1, A1, g1, rl1, r1, p1⟩ => ?_⟩
  have p1 : Post T Ow F1 A1 H1 ((denE C P n env u1).bind fun b => repD d1 b) (FrRep T Ow H) Q := p1
  refine ⟨F1, A1, Ow, env, u1, at_.go g1 rl1, p1.bind.imp fun y H2 ⟨d2, u2, F2, A2, g2, rl2, r2, p2⟩ => ?_⟩
  exact ⟨F2, A2, Ow, u2, d1, d2, H, rl2, r1.go rl1 g2, r2, fun _ h => (g1.trans g2).none h, p2⟩
/-- sorted(xs), sorted(t) of ints -/
theorem sort_uniq : ∀ {xs ys : List Int}, xs.Perm ys → xs.Pairwise (· ≤ ·) → ys.Pairwise (· ≤ ·) → xs = ys := fun h h1 h2 =>
  h.eq_of_pairwise (fun a b _ _ h3 h4 => Int.le_antisymm h3 h4) h1 h2
theorem sort_is {ns ns' : List Int} (h : ns'.Perm ns) (h2 : ns'.Pairwise (· ≤ ·)) : ns' = ns.mergeSort (fun a b => decide (a ≤ b)) := by
  refine sort_uniq (h.trans (List.mergeSort_perm ns _).symm) h2 ?_
  have z := List.pairwise_mergeSort (le := fun (a b : Int) => decide (a ≤ b)) (fun a b c h1 h2 => decide_eq_true (Int.le_trans (of_decide_eq_true h1) (of_decide_eq_true h2))) (fun a b => by
    rcases Int.le_total a b with h | h
    · rw [decide_eq_true h]; rfl
    · rw [decide_eq_true h, Bool.or_true]) ns
  exact z.imp fun h => of_decide_eq_true h
theorem call_sortD (hK : X.K = T.K) : CallR X (.builtin "sorted") (fun xs H Q => ∃ F A Ow u d H0, Rl T F A Ow H u ∧ OpReps T F A Ow H [d] xs ∧ (∀ q, H q = none → H0 q = none) ∧ Post T Ow F A H (lift (sortedD d) u) (FrRep T Ow H0) Q) := by
  intro pins s σ H xs us Q I rx ⟨F, A, Ow, u, d, H0, rl, ra, h0, p⟩
  obtain ⟨v, rfl, h⟩ := ra.one
  unfold sortedD at p
  cases e0 : itsOf d with
  | none => rw [e0] at p; exact p.elim
  | some ds =>
    rw [e0] at p
    have p : Post T Ow F A H (lift (match intsOf ds with | some ns => if ns.length < 64 then some ((ns.mergeSort (fun a b => decide (a ≤ b))).map D.int) else none | none => none) u) (FrRep T Ow H0) Q := p
    cases e1 : intsOf ds with
    | none => rw [e1] at p; exact p.elim
    | some ns =>
      rw [e1] at p
      have p : Post T Ow F A H (lift (if ns.length < 64 then some ((ns.mergeSort (fun a b => decide (a ≤ b))).map D.int) else none) u) (FrRep T Ow H0) Q := p
      by_cases h64 : ns.length < 64
      · rw [if_pos h64] at p
        have fin : ∀ (ns' : List Int) (q : Addr), ns'.Perm ns → ns'.Pairwise (· ≤ ·) → H q = none → Q (.ref q) (upd H q (.lst (ns'.map V.int))) := fun ns' q h1 h2 hq => by
          rw [sort_is h1 h2]
          exact rl.newFr (Reps.ofInts _) p h0 hq
        by_cases ht : ∃ ds', d = .tup ds'
        · obtain ⟨ds', rfl⟩ := ht
          cases e0
          obtain ⟨a, vs, rfl, h1, h2⟩ := h.st rl
          have e2 := h2.ints e1
          subst e2
          exact cr_sortT pins s σ H _ us Q I rx ⟨a, ns, rfl, by rw [hK]; exact h1, h64, fin⟩
        · have e3 : lstOf d = some ds := by
            cases d <;> first | exact e0 | exact absurd ⟨_, rfl⟩ ht
          obtain ⟨a, vs, rfl, h1, h2⟩ := h.sqL rl e3
          have e2 := h2.ints e1
          subst e2
          exact cr_sorted pins s σ H _ us Q I rx ⟨a, ns, rfl, by rw [hK]; exact h1, h64, fin⟩
      · rw [if_neg h64] at p; exact p.elim
theorem snd_sorted (hK : X.K = T.K) {a : Op} {a' : Expr} {p : Pos} (hg : Gl X "sorted") (hm : X.mg "sorted" = none) (ha : PE X a' (tO T C P a)) (hn : notStar a' = true) : PE X (.Call (.Name "sorted" p) [a'] [] pos) (tF T C P (.sorted a)) := by
  refine (pe_callB (id := "sorted") (call_sortD (T := T) hK) hg hm (by decide +kernel) (pa_cons ha pa_nil (star_cons X.env hn)) (by decide +kernel) (by decide +kernel) (star_cons X.env hn) rfl).weak fun σ H Q ⟨F, A, Ow, env, u, at_, p⟩ => ?_
  have p : Post T Ow F A H ((denO C P a env u).bind fun d => lift (sortedD d)) (FrRep T Ow H) Q := p
  exact ⟨F, A, Ow, env, u, at_, (p.bind (R1 := RO T Ow)).imp fun x H1 ⟨d1, u1, F1, A1, g1, rl1, r1, p1⟩ => ⟨F1, A1, Ow, u1, d1, H, rl1, ⟨r1, trivial⟩, fun _ h => g1.none h, p1⟩⟩
end
end Lv

end Part_Lev3

section Part_Lev4
set_option maxRecDepth 100000
set_option maxHeartbeats 2000000
set_option maxHeartbeats 1000000 in
/-! Lev4: what is walked; comprehensions. -/
namespace Lv
open PySem PySem.Spec PyProof.Rows L2

/-- J walks what ds says, while G stands -/
def Wk (T : Sta) (J : L2.It) (ds : List D) (F : Hp) (A : List Addr) (G : Hp → Prop) : Prop :=
  ∃ Y : Nat → Hp → V → Hp → Prop, L2.Walk J ds.length G Y ∧ ∀ (i : Nat) (Ow : Addr → Option Nat) (H H' : Hp) (x : V) (F1 : Hp) (A1 : List Addr) (u : U), i < ds.length → Ext F A F1 A1 → Rl T F1 A1 Ow H u → Y i H x H' →
    ∃ d F2, ds[i]? = some d ∧ Rl T F2 A1 Ow H' u ∧ Go F1 A1 H F2 A1 H' ∧ Rep T F2 A1 d x
def noBor : It → Bool
  | .seq (.bor _) => false
  | _ => true
def PostI (T : Sta) (Ow : Addr → Option Nat) (F : Hp) (A : List Addr) (H : Hp) (r : Res (List D)) (nb : Bool) (R : L2.It → Hp → Prop) : Prop := match r with
  | .ok ds u => ∀ (J : L2.It) (F' : Hp) (A' : List Addr) (H' : Hp) (G : Hp → Prop), Go F A H F' A' H' → Rl T F' A' Ow H' u → Wk T J ds F' A' G → G H' → (∀ F2 A2 H2, Go F' A' H' F2 A2 H2 → Rl T F2 A2 Ow H2 u → G H2) →
      (∀ H2, (∀ b o, F' b = some o → H2 b = some o) → nb = true → G H2) → (∀ H2, (∀ b o, H' b = some o → b ∉ A' → H2 b = some o) → G H2) → R J H'
  | _ => False
def tI (T : Sta) (C : Cfg) (P : Phi) (it : It) : TI := fun σ H R => ∃ F A Ow env u, At T F A Ow σ H env u ∧ PostI T Ow F A H (denI C P it env u) (noBor it) R
theorem PostI.bind {T : Sta} {Ow : Addr → Option Nat} {F H : Hp} {A : List Addr} {γ δ : Type} {r : Res γ} {f : γ → M (List D)} {nb : Bool} {R : L2.It → Hp → Prop} {R1 : Hp → List Addr → Hp → γ → δ → Prop}
    (p : PostI T Ow F A H (r.bind f) nb R) : Post T Ow F A H r R1 (fun x H1 => ∃ a u1 F1 A1, Go F A H F1 A1 H1 ∧ Rl T F1 A1 Ow H1 u1 ∧ R1 F1 A1 H1 a x ∧ PostI T Ow F1 A1 H1 (f a u1) nb R) := by
  cases r with
  | ok a u =>
    intro b F1 A1 H1 g rl h
    refine ⟨a, u, F1, A1, g, rl, h, ?_⟩
    have p : PostI T Ow F A H (f a u) nb R := p
    revert p
    cases f a u with
    | ok ds u2 => exact fun p J F' A' H' G g' rl' => p J F' A' H' G (g.trans g') rl'
    | exc c a u => exact fun p => p
    | bad => exact fun p => p
  | exc c a u => exact p
  | bad => exact p

section
variable {T : Sta} {C : Cfg} {P : Phi} {X : Cx} {tg : Expr}
theorem _root_.L2.PI.weak {e : Expr} {t t' : TI} (h : PI X tg e t) (w : ∀ σ H Q, t' σ H Q → t σ H Q) : PI X tg e t' := ⟨fun pins s σ H R I q => h.run pins s σ H R I (w σ H R q)⟩
/-- a list or a tuple -/
theorem pi_both {l : Expr} {tl : TE} (hl : PE X l tl) : PI X tg l (fun σ H R => tl σ H fun x H1 => ∃ a, x = .ref a ∧ (((∃ xs, SqL X.K H1 a xs) ∧ R (Itl X.K a) H1) ∨ ((∃ xs, SqT X.K H1 a xs) ∧ R (Itt X.K a) H1))) := by
  refine ⟨fun pins s σ H R I h => ?_⟩
  refine thn (hl.run pins s σ H _ I h) fun v s1 ⟨x, H1, I1, r1, q1⟩ => ?_
  obtain ⟨a, e, q1⟩ := q1
  subst e
  cases r1
  have e : ∀ b ∈ [s1.heap.objs.size], b = s1.heap.objs.size := fun b hb => by simpa using hb
  rcases q1 with ⟨⟨xs, hq⟩, q⟩ | ⟨⟨xs, hq⟩, q⟩
  · obtain ⟨its, rv, p, hz⟩ := I1.list hq
    refine wpAny_pyIter_list p.isList ?_
    refine ⟨s1.heap.objs.size, [s1.heap.objs.size], _, _, H1, rfl, I1.kept (t' := s1.toks) fun b o e => Heap.get?_push_of_some _ e, turn_list a _, ⟨_, Heap.get?_push_size _ rfl, rfl, rfl⟩, fun b hb => ?_, q⟩
    rw [e b hb]
    exact I1.fpOk (Nat.le_refl _) (I1.hok.fresh (Nat.le_refl _))
  · obtain ⟨its, rv, p, hz⟩ := I1.tuple hq
    refine wpAny_pyIter_tuple (show s1.heap.IsTuple a its.toArray from p) ?_
    refine ⟨s1.heap.objs.size, [s1.heap.objs.size], _, _, H1, rfl, I1.kept (t' := s1.toks) fun b o e => Heap.get?_push_of_some _ e, turn_tuple a _, ⟨_, Heap.get?_push_size _ rfl, rfl, rfl⟩, fun b hb => ?_, q⟩
    rw [e b hb]
    exact I1.fpOk (Nat.le_refl _) (I1.hok.fresh (Nat.le_refl _))
theorem Wk.list {F : Hp} {A : List Addr} {a : Addr} {xs : List V} {ds : List D} {K : PySem.W.Frag} (G : Hp → Prop) (hG : ∀ H, G H → SqL K H a xs) (r : Reps T F A ds xs) : Wk T (Itl K a) ds F A G := by
  refine ⟨YAt xs, ?_, fun i Ow H H' x F1 A1 u hi ex rl y => ?_⟩
  · have w := walk_list (K := K) (a := a) (xs := xs)
    rw [r.length]
    exact w.mono hG fun i H x H' _ _ y => y
  · obtain ⟨rfl, hx⟩ := y
    obtain ⟨d, h1, h2⟩ := r.getV hx
    exact ⟨d, F1, h1, rl, .refl _ _ _, h2.mono ex⟩
theorem Wk.tup {F : Hp} {A : List Addr} {a : Addr} {xs : List V} {ds : List D} {K : PySem.W.Frag} (G : Hp → Prop) (hG : ∀ H, G H → SqT K H a xs) (r : Reps T F A ds xs) : Wk T (Itt K a) ds F A G := by
  refine ⟨YAt xs, ?_, fun i Ow H H' x F1 A1 u hi ex rl y => ?_⟩
  · have w := walk_tup (K := K) (a := a) (xs := xs)
    rw [r.length]
    exact w.mono hG fun i H x H' _ _ y => y
  · obtain ⟨rfl, hx⟩ := y
    obtain ⟨d, h1, h2⟩ := r.getV hx
    exact ⟨d, F1, h1, rl, .refl _ _ _, h2.mono ex⟩
/-- frozen things stay -/
theorem go_sub {F F2 H H2 : Hp} {A A2 : List Addr} {Ow : Addr → Option Nat} {u : U} (g : Go F A H F2 A2 H2) (r : Rl T F2 A2 Ow H2 u) : ∀ b o, F b = some o → H2 b = some o := fun b o h => r.sub b o (g.ext.f b o h)
theorem not_cell {F H : Hp} {A : List Addr} {Ow : Addr → Option Nat} {u : U} (rl : Rl T F A Ow H u) {b : Addr} {o : HO} (h : F b = some o) : b ∉ A := fun q => by
  obtain ⟨i, hi, e⟩ := List.getElem_of_mem q
  have h1 : A[i]? = some b := by rw [List.getElem?_eq_getElem hi, e]
  have h2 : i < u.length := by rw [← rl.len]; exact hi
  rw [(rl.cel i b u[i] h1 (List.getElem?_eq_getElem h2)).1] at h
  cases h
theorem fr_sub {F H H2 : Hp} {A : List Addr} {Ow : Addr → Option Nat} {u : U} (rl : Rl T F A Ow H u) (h : ∀ b o, H b = some o → b ∉ A → H2 b = some o) : ∀ b o, F b = some o → H2 b = some o := fun b o q => h b o (rl.sub b o q) (not_cell rl q)
theorem snd_i_v (hK : X.K = T.K) {e : CE} {e' : Expr} (he : PE X e' (tE T C P e)) : PI X tg e' (tI T C P (.seq (.v e))) := by
  refine (pi_both he).weak fun σ H R ⟨F, A, Ow, env, u, at_, p⟩ => ?_
  have p : PostI T Ow F A H ((denE C P e env u).bind fun d => lift (itsOf d)) true R := p
  refine ⟨F, A, Ow, env, u, at_, (p.bind (R1 := RV T)).imp fun x H1 ⟨d1, u1, F1, A1, g1, rl1, r1, p1⟩ => ?_⟩
  cases d1 <;> try exact p1.elim
  · rename_i ds
    obtain ⟨a, vs, rfl, h, r⟩ := rep_tup r1
    refine ⟨a, rfl, .inr ⟨⟨vs, by rw [hK]; exact sqT_mono rl1.sub h⟩, ?_⟩⟩
    have p1 : PostI T Ow F1 A1 H1 (.ok ds u1) true R := p1
    exact p1 _ F1 A1 H1 (fun H2 => SqT X.K H2 a vs) (.refl _ _ _) rl1 (.tup _ (fun _ h => h) r) (by rw [hK]; exact sqT_mono rl1.sub h) (fun F2 A2 H2 g r => by rw [hK]; exact sqT_mono (go_sub g r) h) (fun H2 q _ => by rw [hK]; exact sqT_mono q h) fun H2 q => by rw [hK]; exact sqT_mono (fr_sub rl1 q) h
  · rename_i ds
    obtain ⟨a, vs, rfl, h, r⟩ := rep_lst r1
    refine ⟨a, rfl, .inl ⟨⟨vs, .inl (.inl (rl1.sub _ _ h))⟩, ?_⟩⟩
    have p1 : PostI T Ow F1 A1 H1 (.ok ds u1) true R := p1
    exact p1 _ F1 A1 H1 (fun H2 => H2 a = some (.lst vs)) (.refl _ _ _) rl1 (.list _ (fun _ h => .inl (.inl h)) r) (rl1.sub _ _ h) (fun F2 A2 H2 g r => go_sub g r _ _ h) (fun H2 q _ => q _ _ h) fun H2 q => fr_sub rl1 q _ _ h
  · rename_i ns
    obtain ⟨a, rfl, h⟩ := rep_scr r1
    refine ⟨a, rfl, .inl ⟨⟨_, by rw [hK]; exact sqL_mono rl1.sub h⟩, ?_⟩⟩
    have p1 : PostI T Ow F1 A1 H1 (.ok (ns.map D.int) u1) true R := p1
    exact p1 _ F1 A1 H1 (fun H2 => SqL X.K H2 a (ns.map V.int)) (.refl _ _ _) rl1 (.list _ (fun _ h => h) (Reps.ofInts ns)) (by rw [hK]; exact sqL_mono rl1.sub h) (fun F2 A2 H2 g r => by rw [hK]; exact sqL_mono (go_sub g r) h) (fun H2 q _ => by rw [hK]; exact sqL_mono q h) fun H2 q => by rw [hK]; exact sqL_mono (fr_sub rl1 q) h
theorem snd_i_b {i : Nat} {x : Str} {pos : Pos} (hN : X.N[i]? = some x) (hv : Vis X.env.scope x) (hd : (x == ("__debug__" : Str)) = false) (hcd : (x == ("__classdict__" : Str)) = false) : PI X tg (.Name x pos) (tI T C P (.seq (.bor i))) := by
  refine (pi_both (pe_var (i := i) hN hv hd hcd)).weak fun σ H R ⟨F, A, Ow, env, u, at_, p⟩ => ?_
  have p : PostI T Ow F A H (((match getS env i with | .own d => ret (.lst d) | _ => stuck : M D) u).bind fun d => lift (itsOf d)) false R := p
  cases q : env[i]? with
  | none =>
    have e : getS env i = .no := by unfold getS; rw [q]; rfl
    rw [e] at p; exact p.elim
  | some s =>
    have e : getS env i = s := by unfold getS; rw [q]; rfl
    rw [e] at p
    cases s with
    | no => exact p.elim
    | val ds => exact p.elim
    | own ds =>
      obtain ⟨a, vs, h1, h2, h3, h4⟩ := at_.en.own i ds q
      have p : PostI T Ow F A H (.ok ds u) false R := p
      have nA := (at_.rl.ow a i h3).2.1
      refine ⟨.ref a, h1, a, rfl, .inl ⟨⟨vs, .inl (.inl h2)⟩, ?_⟩⟩
      exact p _ F A H (fun H2 => H2 a = some (.lst vs)) (.refl _ _ _) at_.rl (.list _ (fun _ h => .inl (.inl h)) h4) h2 (fun F2 A2 H2 g _ => g.fr _ _ h2 nA) (fun _ _ h => by cases h) fun H2 q => q _ _ h2 nA
/-- range -/
theorem Wk.range {F : Hp} {A : List Addr} {lo hi : Int} : Wk T (Itr lo (hi - lo).toNat) (rngL lo hi) F A (fun _ => True) := by
  refine ⟨YFn fun i => .int (lo + i), ?_, fun i Ow H H' x F1 A1 u hi' ex rl y => ?_⟩
  · have e : (rngL lo hi).length = (hi - lo).toNat := by unfold rngL; rw [List.length_map, List.length_range]
    rw [e]
    exact walk_range
  · obtain ⟨rfl, rfl⟩ := y
    refine ⟨.int (lo + i), F1, ?_, rl, .refl _ _ _, .int _⟩
    unfold rngL at hi' ⊢
    rw [List.length_map, List.length_range] at hi'
    rw [List.getElem?_map, List.getElem?_range hi']
    rfl
theorem rngOk_of {i : Int} (h : rngOk i = true) : -(2 ^ 62) ≤ i ∧ i < 2 ^ 62 := by
  unfold rngOk at h
  rw [Bool.and_eq_true] at h
  exact ⟨of_decide_eq_true h.1, of_decide_eq_true h.2⟩
theorem snd_i_r1 {a : CE} {a' : Expr} {p pos : Pos} (hg : Gl X "range") (hm : X.mg "range" = none) (ha : PE X a' (tE T C P a)) (hn : notStar a' = true) : PI X tg (.Call (.Name "range" p) [a'] [] pos) (tI T C P (.rng1 a)) := by
  refine (pi_range1 hg hm (pa_cons ha pa_nil (star_cons X.env hn)) (star_cons X.env hn)).weak fun σ H R ⟨F, A, Ow, env, u, at_, p⟩ => ?_
  have p : PostI T Ow F A H ((denE C P a env u).bind fun d => lift (rng1D d)) true R := p
  refine ⟨F, A, Ow, env, u, at_, (p.bind (R1 := RV T)).imp fun x H1 ⟨d1, u1, F1, A1, g1, rl1, r1, p1⟩ => ?_⟩
  cases d1 <;> try exact p1.elim
  rename_i j
  obtain rfl := rep_int r1
  have p1 : PostI T Ow F1 A1 H1 (lift (if rngOk j = true then some (rngL 0 j) else none) u1) true R := p1
  by_cases h : rngOk j = true
  · rw [if_pos h] at p1
    have hb := rngOk_of h
    have z := p1 _ F1 A1 H1 (fun _ => True) (.refl _ _ _) rl1 .range trivial (fun _ _ _ _ _ => trivial) (fun _ _ _ => trivial) (fun _ _ => trivial)
    rw [Int.sub_zero] at z
    exact ⟨j, rfl, hb.1, hb.2, z⟩
  · rw [if_neg h] at p1; exact p1.elim
theorem snd_i_r2 {a b : CE} {a' b' : Expr} {p pos : Pos} (hg : Gl X "range") (hm : X.mg "range" = none) (ha : PE X a' (tE T C P a)) (hn : notStar a' = true) (hb : PE X b' (tE T C P b)) (hn' : notStar b' = true) : PI X tg (.Call (.Name "range" p) [a', b'] [] pos) (tI T C P (.rng2 a b)) := by
  have e1 : starEach [a', b'] X.env = [(false, eval a' X.env), (false, eval b' X.env)] := by rw [star_cons X.env hn, star_cons X.env hn']; rfl
  refine (pi_range2 hg hm (pa_cons ha (pa_cons hb pa_nil (star_cons X.env hn')) (star_cons X.env hn)) e1 (star_cons X.env hn')).weak fun σ H R ⟨F, A, Ow, env, u, at_, p⟩ => ?_
  have p : PostI T Ow F A H ((denE C P a env u).bind fun d => M.bind (denE C P b env) fun e => lift (rng2D d e)) true R := p
  refine ⟨F, A, Ow, env, u, at_, (p.bind (R1 := RV T)).imp fun x H1 ⟨d1, u1, F1, A1, g1, rl1, r1, p1⟩ => ?_⟩
  have p1 : PostI T Ow F1 A1 H1 ((denE C P b env u1).bind fun e => lift (rng2D d1 e)) true R := p1
  refine ⟨F1, A1, Ow, env, u1, at_.go g1 rl1, (p1.bind (R1 := RV T)).imp fun y H2 ⟨d2, u2, F2, A2, g2, rl2, r2, p2⟩ => ?_⟩
  obtain ⟨i, rfl⟩ : ∃ i, d1 = .int i := by cases d1 <;> first | exact ⟨_, rfl⟩ | exact p2.elim
  obtain ⟨j, rfl⟩ : ∃ i, d2 = .int i := by cases d2 <;> first | exact ⟨_, rfl⟩ | exact p2.elim
  obtain rfl := rep_int r1
  obtain rfl := rep_int r2
  have p2 : PostI T Ow F2 A2 H2 (lift (if (rngOk i && rngOk j) = true then some (rngL i j) else none) u2) true R := p2
  by_cases h : (rngOk i && rngOk j) = true
  · rw [if_pos h] at p2
    rw [Bool.and_eq_true] at h
    have h1 := rngOk_of h.1
    have h2 := rngOk_of h.2
    exact ⟨i, j, rfl, ⟨h1.1, h1.2, h2.1, h2.2⟩, p2 _ F2 A2 H2 (fun _ => True) (.refl _ _ _) rl2 .range trivial (fun _ _ _ _ _ => trivial) (fun _ _ _ => trivial) (fun _ _ => trivial)⟩
  · rw [if_neg h] at p2; exact p2.elim

/-! ### zip, enumerate: new pairs -/
theorem zipL_get : ∀ {xs ys : List D} {i : Nat} {a b : D}, xs[i]? = some a → ys[i]? = some b → (zipL xs ys)[i]? = some (.tup [a, b])
  | [], _, _, _, _, h, _ => by simp at h
  | _ :: _, [], _, _, _, _, h => by simp at h
  | x :: xs, y :: ys, 0, a, b, h, h' => by simp at h h'; subst h h'; rfl
  | x :: xs, y :: ys, i + 1, a, b, h, h' => by
    show (zipL xs ys)[i]? = _
    exact zipL_get (by simpa using h) (by simpa using h')
theorem zipL_len : ∀ xs ys : List D, (zipL xs ys).length = min xs.length ys.length
  | [], ys => by cases ys <;> simp [zipL]
  | _ :: _, [] => by simp [zipL]
  | x :: xs, y :: ys => by
    show (zipL xs ys).length + 1 = min (xs.length + 1) (ys.length + 1)
    rw [zipL_len xs ys]; omega
theorem enmL_len : ∀ (ds : List D) (k : Int), (enmL k ds).length = ds.length
  | [], _ => rfl
  | d :: ds, k => congrArg (· + 1) (enmL_len ds (k + 1))
theorem enmL_get : ∀ {ds : List D} {k : Int} {i : Nat} {d : D}, ds[i]? = some d → (enmL k ds)[i]? = some (.tup [.int (k + i), d])
  | [], _, _, _, h => by simp at h
  | x :: ds, k, 0, d, h => by
    simp at h; subst h
    show some (D.tup [.int k, x]) = _
    rw [show k + ((0 : Nat) : Int) = k by omega]
  | x :: ds, k, i + 1, d, h => by
    have ih := enmL_get (ds := ds) (k := k + 1) (i := i) (d := d) (by simpa using h)
    show (enmL (k + 1) ds)[i]? = _
    rw [ih, show k + 1 + (i : Int) = k + ((i + 1 : Nat) : Int) by omega]
/-- a new pair is laid -/
theorem pair_laid {F1 H H' : Hp} {A1 : List Addr} {Ow : Addr → Option Nat} {u : U} {Tn : Addr} {x y : V} {a b : D} (rl : Rl T F1 A1 Ow H u) (hT : H Tn = none) (e : H' = upd H Tn (.tup [x, y])) (ra : Rep T F1 A1 a x) (rb : Rep T F1 A1 b y) :
    ∃ F2, Rl T F2 A1 Ow H' u ∧ Go F1 A1 H F2 A1 H' ∧ Rep T F2 A1 (.tup [a, b]) (.ref Tn) := by
  subst e
  obtain ⟨r, g⟩ := rl.new (o := .tup [x, y]) hT
  exact ⟨_, r, g, .tup (.inl (.inl upd_same)) (.cons (ra.mono g.ext) (.cons (rb.mono g.ext) .nil))⟩
theorem Wk.zipL {F : Hp} {A : List Addr} {a b : Addr} {xs ys : List V} {ds es : List D} {K : PySem.W.Frag} (G : Hp → Prop) (hG : ∀ H, G H → SqL K H a xs ∧ SqL K H b ys) (r : Reps T F A ds xs) (r' : Reps T F A es ys) : Wk T (Itz K a b) (Lv.zipL ds es) F A G := by
  refine ⟨YPair (fun i => xs[i]?) (fun i => ys[i]?), ?_, fun i Ow H H' x F1 A1 u hi ex rl y => ?_⟩
  · exact (walk_zip (K := K) (a := a) (b := b) (xs := xs) (ys := ys) (by rw [zipL_len, r.length, r'.length])).mono hG fun i H x H' _ _ y => y
  · obtain ⟨Tn, x1, x2, rfl, hT, e, h1, h2⟩ := y
    obtain ⟨d, e1, r1⟩ := r.getV h1
    obtain ⟨d', e2, r2⟩ := r'.getV h2
    obtain ⟨F2, a1, a2, a3⟩ := pair_laid rl hT e (r1.mono ex) (r2.mono ex)
    exact ⟨_, F2, zipL_get e1 e2, a1, a2, a3⟩
theorem Wk.zipT {F : Hp} {A : List Addr} {a b : Addr} {xs ys : List V} {ds es : List D} {K : PySem.W.Frag} (G : Hp → Prop) (hG : ∀ H, G H → SqT K H a xs ∧ SqT K H b ys) (r : Reps T F A ds xs) (r' : Reps T F A es ys) : Wk T (RZ.ItzT K a b) (Lv.zipL ds es) F A G := by
  refine ⟨YPair (fun i => xs[i]?) (fun i => ys[i]?), ⟨fun i H hi q => ?_, fun H q => ?_, fun i H v H' hi q y => ?_⟩, fun i Ow H H' x F1 A1 u hi ex rl y => ?_⟩
  · obtain ⟨q1, q2⟩ := hG H q
    rw [zipL_len, r.length, r'.length] at hi
    have h1 : i < xs.length := by omega
    have h2 : i < ys.length := by omega
    exact ⟨xs, ys, xs[i], ys[i], q1, q2, by simp [h1], by simp [h2]⟩
  · obtain ⟨q1, q2⟩ := hG H q
    exact ⟨xs, ys, q1, q2, by rw [zipL_len, r.length, r'.length]; omega⟩
  · obtain ⟨q1, q2⟩ := hG H q
    obtain ⟨Tn, x, z, h1, h2, h3, h4, h5⟩ := y
    exact ⟨Tn, x, z, h1, h2, h3, h4 xs q1, h5 ys q2⟩
  · obtain ⟨Tn, x1, x2, rfl, hT, e, h1, h2⟩ := y
    obtain ⟨d, e1, r1⟩ := r.getV h1
    obtain ⟨d', e2, r2⟩ := r'.getV h2
    obtain ⟨F2, a1, a2, a3⟩ := pair_laid rl hT e (r1.mono ex) (r2.mono ex)
    exact ⟨_, F2, zipL_get e1 e2, a1, a2, a3⟩
theorem snd_i_zip (hK : X.K = T.K) {elts : List Expr} {kk : Nat} {tpos p pos : Pos} {a b : CE} {a' b' : Expr} (hg : Gl X "zip") (hm : X.mg "zip" = none) (ha : PE X a' (tE T C P a)) (hn : notStar a' = true) (hb : PE X b' (tE T C P b)) (hn' : notStar b' = true) : PI X (.Tuple elts kk tpos) (.Call (.Name "zip" p) [a', b'] [] pos) (tI T C P (.zip a b)) := by
  refine (RZ.pi_zipA hg hm (pa_cons ha (pa_cons hb pa_nil (star_cons X.env hn')) (star_cons X.env hn)) (star_cons X.env hn) (star_any (es := [b']) (by simp [hn']))).weak fun σ H R ⟨F, A, Ow, env, u, at_, p⟩ => ?_
  have p : PostI T Ow F A H ((denE C P a env u).bind fun d => M.bind (denE C P b env) fun e => lift (zipD d e)) true R := p
  refine ⟨F, A, Ow, env, u, at_, (p.bind (R1 := RV T)).imp fun x H1 ⟨d1, u1, F1, A1, g1, rl1, r1, p1⟩ => ?_⟩
  have p1 : PostI T Ow F1 A1 H1 ((denE C P b env u1).bind fun e => lift (zipD d1 e)) true R := p1
  refine ⟨F1, A1, Ow, env, u1, at_.go g1 rl1, (p1.bind (R1 := RV T)).imp fun y H2 ⟨d2, u2, F2, A2, g2, rl2, r2, p2⟩ => ?_⟩
  have cs : (∃ ds es, d1 = .tup ds ∧ d2 = .tup es) ∨ ∃ ds es, d1 = .lst ds ∧ d2 = .lst es := by
    cases d1 <;> cases d2 <;> first | exact .inl ⟨_, _, rfl, rfl⟩ | exact .inr ⟨_, _, rfl, rfl⟩ | exact p2.elim
  rcases cs with ⟨ds, es, rfl, rfl⟩ | ⟨ds, es, rfl, rfl⟩
  · obtain ⟨q, vs, rfl, h1, s1⟩ := rep_tup r1
    obtain ⟨q', ws, rfl, h2, s2⟩ := rep_tup r2
    have h1 := sqT_mono g2.ext.f h1
    have p2 : PostI T Ow F2 A2 H2 (.ok (Lv.zipL ds es) u2) true R := p2
    refine ⟨q, q', vs, ws, rfl, .inr ⟨by rw [hK]; exact sqT_mono rl2.sub h1, by rw [hK]; exact sqT_mono rl2.sub h2, ?_⟩⟩
    exact p2 _ F2 A2 H2 (fun H3 => SqT X.K H3 q vs ∧ SqT X.K H3 q' ws) (.refl _ _ _) rl2 (.zipT _ (fun _ h => h) (s1.mono g2.ext) s2) (by rw [hK]; exact ⟨sqT_mono rl2.sub h1, sqT_mono rl2.sub h2⟩) (fun F3 A3 H3 g r => by rw [hK]; exact ⟨sqT_mono (go_sub g r) h1, sqT_mono (go_sub g r) h2⟩)
      (fun H3 z _ => by rw [hK]; exact ⟨sqT_mono z h1, sqT_mono z h2⟩) fun H3 z => by rw [hK]; exact ⟨sqT_mono (fr_sub rl2 z) h1, sqT_mono (fr_sub rl2 z) h2⟩
  · obtain ⟨q, vs, rfl, h1, s1⟩ := rep_lst r1
    obtain ⟨q', ws, rfl, h2, s2⟩ := rep_lst r2
    have h1 := g2.ext.f _ _ h1
    have p2 : PostI T Ow F2 A2 H2 (.ok (Lv.zipL ds es) u2) true R := p2
    refine ⟨q, q', vs, ws, rfl, .inl ⟨.inl (.inl (rl2.sub _ _ h1)), .inl (.inl (rl2.sub _ _ h2)), ?_⟩⟩
    exact p2 _ F2 A2 H2 (fun H3 => H3 q = some (.lst vs) ∧ H3 q' = some (.lst ws)) (.refl _ _ _) rl2 (.zipL _ (fun _ h => ⟨.inl (.inl h.1), .inl (.inl h.2)⟩) (s1.mono g2.ext) s2) ⟨rl2.sub _ _ h1, rl2.sub _ _ h2⟩ (fun F3 A3 H3 g r => ⟨go_sub g r _ _ h1, go_sub g r _ _ h2⟩)
      (fun H3 z _ => ⟨z _ _ h1, z _ _ h2⟩) fun H3 z => ⟨fr_sub rl2 z _ _ h1, fr_sub rl2 z _ _ h2⟩
end
/-! ### enumerate, from any count, of lists and tuples -/
def SqB (K : PySem.W.Frag) (tp : Bool) (H : Hp) (a : Addr) (xs : List V) : Prop := if tp = true then SqT K H a xs else SqL K H a xs
def IteG (K : PySem.W.Frag) (tp : Bool) (k0 : Int) (a : Addr) : L2.It :=
  ⟨fun i H => ∃ (xs : List V) (x : V), SqB K tp H a xs ∧ xs[i]? = some x,
   fun i H v H' => ∃ (Tn : Addr) (x : V), v = .ref Tn ∧ H Tn = none ∧ H' = upd H Tn (.tup [.int (k0 + (i : Nat)), x]) ∧ ∀ xs, SqB K tp H a xs → xs[i]? = some x,
   fun i H => ∃ xs : List V, SqB K tp H a xs ∧ xs.length = i⟩
def SItr (tp : Bool) (h : Heap) (it a : Addr) (i : Nat) : Prop := if tp = true then h.IsTupleIter it a i else h.IsListIter it a i
def SObj (tp : Bool) (h : Heap) (a : Addr) (its : Array Value) : Prop := if tp = true then h.IsTuple a its else h.IsList a its
theorem draws_seq {prog : Program} {w : World} {A : Around} (tp : Bool) (hh : A.handled = none) (it l : Addr) (hne : l ≠ it) (items : Array Value) :
    Draws prog w A it [it, l] items.size (fun i v => items[i]? = some v) (fun i h => SItr tp h it l i ∧ SObj tp h l items) := by
  cases tp with
  | true => exact Draws.tuple hh it l hne items
  | false => exact Draws.list hh it l hne items
section
variable {X : Cx} {pins : List (Addr × Obj)} {σ : L2.St} {H : Hp} {s : Shared}
theorem seq_obj {tp : Bool} {a : Addr} {xs : List V} (I : Inv X pins σ H s) (h : SqB X.K tp H a xs) : ∃ its : List Value, Vals xs its ∧ SObj tp s.heap a its.toArray ∧ xs.length ≤ sizeLine := by
  cases tp with
  | true => obtain ⟨its, r, p, z⟩ := I.tuple h; exact ⟨its, r, p, z⟩
  | false => obtain ⟨its, r, p, z⟩ := I.list h; exact ⟨its, r, p.isList, z⟩
theorem seq_inj {tp : Bool} {a : Addr} {xs ys : List V} (I : Inv X pins σ H s) (h : SqB X.K tp H a xs) (h' : SqB X.K tp H a ys) : xs = ys := by
  cases tp with
  | true => exact I.tuple_inj h h'
  | false => exact I.list_inj h h'
end
theorem sobj_cls {tp : Bool} {h : Heap} {a : Addr} {its : Array Value} (x : SObj tp h a its) : ∃ o, h.get? a = some o ∧ (o.cls = .type "list" ∨ o.cls = .type "tuple") := by
  cases tp with
  | true => obtain ⟨o, h1, h2, _⟩ := x; exact ⟨o, h1, .inr h2⟩
  | false => obtain ⟨o, h1, h2, _⟩ := x; exact ⟨o, h1, .inl h2⟩
theorem sitr_cls {tp : Bool} {h : Heap} {a it : Addr} {i : Nat} (x : SItr tp h it a i) : ∃ o, h.get? it = some o ∧ (o.cls = .type "list_iterator" ∨ o.cls = .type "tuple_iterator") ∧ ∀ v, o.data ≠ .cell v := by
  cases tp with
  | true => obtain ⟨o, h1, h2, h3⟩ := x; exact ⟨o, h1, .inr h2, fun v q => by rw [h3] at q; cases q⟩
  | false => obtain ⟨o, h1, h2, h3⟩ := x; exact ⟨o, h1, .inl h2, fun v q => by rw [h3] at q; cases q⟩
theorem sitr_at {tp : Bool} {h h' : Heap} {a it : Addr} {i : Nat} (x : SItr tp h it a i) (k : ∀ o, h.get? it = some o → h'.get? it = some o) : SItr tp h' it a i := by
  cases tp with
  | true => exact Heap.IsTupleIter.at x k
  | false => exact Heap.IsListIter.at x k
theorem turn_enumG {P : Program} {w : World} {K : PySem.W.Frag} {elts : List Expr} {kk : Nat} {tpos : Pos} (tp : Bool) (k0 : Int) (a e it : Addr) :
    Turn P w K (.Tuple elts kk tpos) (IteG K tp k0 a) [e, it] e (fun i h => (∃ old, IsEnum h e it (k0 + (i : Nat)) old) ∧ SItr tp h it a i ∧ e ≠ it) where
  mem := by simp
  obj := fun i h st b hb => by
    obtain ⟨⟨old, he⟩, hi, _⟩ := st
    have e' : b = e ∨ b = it := by simpa using hb
    rcases e' with z | z
    · rw [z]; exact ⟨_, he, fun v q => nomatch q⟩
    · obtain ⟨o, h1, _, h3⟩ := sitr_cls hi
      rw [z]; exact ⟨o, h1, h3⟩
  keep := fun i h h' st k => let ⟨⟨old, he⟩, hi, hne⟩ := st; ⟨⟨old, k e (by simp) _ he⟩, sitr_at hi fun o q => k it (by simp) o q, hne⟩
  item := by
    intro X hP hw hK hc i pins s σ H E I hf st hg
    subst hP hw hK
    obtain ⟨⟨old, he⟩, hit, hne⟩ := st
    obtain ⟨xs, x, hq, hx⟩ := hg
    obtain ⟨its, rv, p, hz⟩ := seq_obj I hq
    obtain ⟨u, hu, ru⟩ := rv.get hx
    have hel : e < s.heap.objs.size := Heap.lt_size he
    obtain ⟨oi, hi1, hi2, _⟩ := sitr_cls hit
    obtain ⟨oa, ha1, ha2⟩ := sobj_cls p
    have hil : it < s.heap.objs.size := Heap.lt_size hi1
    have hai : a ≠ it := fun z => by
      rw [z, hi1] at ha1; cases ha1
      rcases hi2 with h | h <;> rcases ha2 with h' | h' <;> rw [h] at h' <;> exact absurd (Value.type.inj h') (by decide)
    have hea : e ≠ a := fun z => by
      rw [← z, he] at ha1; cases ha1
      rcases ha2 with h' | h' <;> exact absurd (Value.type.inj h') (by decide)
    have D := draws_seq (prog := X.prog) (w := X.w) (A := X.A.in1) tp (show X.A.in1.handled = none from I.ok.hd hc) it a hai its.toArray
    have hlt : i < its.toArray.size := by
      have := rv.length
      have := (List.getElem?_eq_some_iff.mp hx).1
      simp; omega
    refine wpAny_pyNext_enum_itemC D he ⟨hit, p⟩ hlt hne (by simp [hne, hea]) fun y h' tk hy ho hit' hT hsz hk => ?_
    have ey : y = u := by
      have hy' : its.toArray[i]? = some y := hy
      simp at hy'
      rw [hu] at hy'
      exact (Option.some.inj hy').symm
    subst ey
    refine ⟨_, rfl, wpAny_letOwnedTupleGo_enum (s := { s with heap := h', toks := tk + 1 }) ho fun h'' he' sb => ?_⟩
    have hT2 : h''.get? s.heap.objs.size = some { cls := .type "tuple", data := .seq #[.int (k0 + (i : Nat)) tk, y] } := (sb.2 _ (Nat.ne_of_gt hel)).trans hT
    have new : ObjOk X.prog X.w (upd H s.heap.objs.size (.tup [.int (k0 + (i : Nat)), x])) h'' s.heap.objs.size (.tup [.int (k0 + (i : Nat)), x]) :=
      ⟨by show 2 ≤ sizeLine; decide, [.int (k0 + (i : Nat)) tk, y], .cons ⟨_, rfl⟩ (.cons ru .nil), ⟨_, hT2, rfl, _, rfl⟩⟩
    have I1 : Inv X pins σ (upd H s.heap.objs.size (.tup [.int (k0 + (i : Nat)), x])) { s with heap := h'', toks := tk + 1 } :=
      I.turnedNew (ch := [e, it]) (fun b ob hb q => (sb.2 b (fun z => hb (by simp [z]))).trans (hk b ob (fun z => hb (by simp [z])) (fun z => hb (by simp [z])) q)) hf (Nat.le_refl _) new
    refine ⟨.ref s.heap.objs.size, _, I1, rfl, ⟨_, x, rfl, I.hok.fresh (Nat.le_refl _), rfl, fun ys hy => by rw [seq_inj I hy hq]; exact hx⟩, ⟨⟨y, ?_⟩, sitr_at hit'.1 fun o q => (sb.2 it (Ne.symm hne)).trans q, hne⟩, fun b hb => ?_⟩
    · have e1 : k0 + ((i + 1 : Nat) : Int) = k0 + (i : Int) + 1 := by omega
      rw [e1]; exact he'
    · have hb' : b < s.heap.objs.size := by
        have e' : b = e ∨ b = it := by simpa using hb
        rcases e' with z | z
        · rw [z]; exact hel
        · rw [z]; exact hil
      rw [upd_ne (Nat.ne_of_lt hb')]
      exact (hf b hb).1
  done := by
    intro X hP hw hK hc i pins s σ H E I hf st hg
    subst hP hw hK
    obtain ⟨⟨old, he⟩, hit, hne⟩ := st
    obtain ⟨xs, hq, hx⟩ := hg
    obtain ⟨its, rv, p, hz⟩ := seq_obj I hq
    obtain ⟨f0, f1, f2, f3, f4, f5⟩ := hf it (by simp)
    obtain ⟨oi, hi1, hi2, _⟩ := sitr_cls hit
    obtain ⟨oa, ha1, ha2⟩ := sobj_cls p
    have hai : a ≠ it := fun z => by
      rw [z, hi1] at ha1; cases ha1
      rcases hi2 with h | h <;> rcases ha2 with h' | h' <;> rw [h] at h' <;> exact absurd (Value.type.inj h') (by decide)
    have D := draws_seq (prog := X.prog) (w := X.w) (A := X.A.in1) tp (show X.A.in1.handled = none from I.ok.hd hc) it a hai its.toArray
    have e : i = its.toArray.size := by
      have := rv.length
      simp; omega
    have st : SItr tp s.heap it a its.toArray.size ∧ SObj tp s.heap a its.toArray := by rw [← e]; exact ⟨hit, p⟩
    exact wpAny_pyNext_enum_endD D he st fun h' eb => ⟨rfl, I.turned (t' := s.toks) (fun b o hb q => eb b o hb q) f0 f1 f3 f4 f5⟩
  self := fun A i s Q E st h => let ⟨⟨_, he⟩, _⟩ := st; wpAny_pyIter_enum he h
theorem meets_enumerate_newB1 {v : Value} {o : Obj} {H : Heap → Prop} (B : Begins v o H) :
    Meets (Builtin.«enumerate.__new__» ⟨[.type "enumerate", v], []⟩) (fun _ R s => H s.heap ∧
      R (.ok (.ret (.ref (s.heap.push o).objs.size))) { s with heap := (s.heap.push o).push { cls := .type "enumerate", data := .fields #[.none, .bool false, .ref s.heap.objs.size, rawInt 0, .none, .none] } }) :=
  .of_wp fun prog w A R s h => by
    obtain ⟨hp, g, d, tk, os⟩ := s; obtain ⟨h1, h⟩ := h
    have hsub := sub_enumerate
    have q1 : ∀ {A' : Around} {E : Value → Shared → Prop} {Q : Value → Shared → Prop}, Q (.ref hp.objs.size) ⟨hp.push o, g, d, tk, os⟩ → wpAny (model prog w) A' (pyIter v) Q E ⟨hp, g, d, tk, os⟩ :=
      fun q => B.iter prog w _ _ ⟨hp, g, d, tk, os⟩ _ h1 q
    wp_walk using q1
    refine wpAny_stack_any fun st => wpAny_pure ?_
    split
    · rename_i c _ _ _ _ _
      cases (c == Value.type "enumerate")
      · wp_walk using q1
        exact ⟨_, rfl, h⟩
      · wp_walk using q1
        exact ⟨_, rfl, h⟩
    · wp_walk using q1
      exact ⟨_, rfl, h⟩
section
variable {prog : Program} {w : World} {A : Around} {E : Value → Shared → Prop} {s : Shared}
theorem enum_begins1 {v : Value} {o : Obj} {H : Heap → Prop} {Q : Value → Shared → Prop} (B : Begins v o H) (h1 : H s.heap)
    (h : ∀ h', IsEnum h' (s.heap.objs.size + 1) s.heap.objs.size 0 .none → h'.get? s.heap.objs.size = some o → h'.objs.size = s.heap.objs.size + 2 →
      (∀ b o, s.heap.get? b = some o → h'.get? b = some o) → Q (.ref (s.heap.objs.size + 1)) { s with heap := h' }) :
    wpAny (model prog w) A (call (.type "enumerate") [v]) Q E s := by
  refine callType_new F.called_enumerate (by decide) (F.typeCall_enumerate_1 _) (F.newCall_enumerate_1 _) (fun obj => F.args_object_init_2 obj _) F.entry_enumerate_new
    (meets_enumerate_newB1 B) ⟨h1, ?_⟩
  have hz : (s.heap.push o).objs.size = s.heap.objs.size + 1 := Heap.size_push ..
  show _ ∧ _
  rw [hz]
  have he : IsEnum ((s.heap.push o).push { cls := .type "enumerate", data := .fields #[.none, .bool false, .ref s.heap.objs.size, rawInt 0, .none, .none] }) (s.heap.objs.size + 1) s.heap.objs.size 0 .none := by
    have := Heap.get?_push_size (s.heap.push o) (o := { cls := .type "enumerate", data := .fields #[.none, .bool false, .ref s.heap.objs.size, rawInt 0, .none, .none] }) rfl
    rw [hz] at this; exact this
  refine ⟨⟨_, he, rfl⟩, h _ he (Heap.get?_push_of_some _ (Heap.get?_push_size _ B.free)) (by rw [Heap.size_push, hz]) fun b o x => Heap.get?_push_of_some _ (Heap.get?_push_of_some _ x)⟩
end
def itObj (tp : Bool) (a : Addr) : Obj := { cls := .type (if tp = true then "tuple_iterator" else "list_iterator"), data := .fields #[.ref a, .int 0 0] }
theorem begins_seq (tp : Bool) (a : Addr) (its : Array Value) : Begins (.ref a) (itObj tp a) fun h => SObj tp h a its := by
  cases tp with
  | true => exact begins_tuple a its
  | false => exact begins_list a its
theorem itr_of {tp : Bool} {h : Heap} {it a : Addr} (e : h.get? it = some (itObj tp a)) : SItr tp h it a 0 := by
  cases tp with
  | true => exact ⟨_, e, rfl, rfl⟩
  | false => exact ⟨_, e, rfl, rfl⟩
def iEnumG (K : PySem.W.Frag) (k : Option Int) (ta : TA) : TI := fun σ H R => ta σ H fun vs H1 => ∃ tp a xs, vs = (match k with | none => [.ref a] | some j => [.ref a, .int j]) ∧ -(2 ^ 63) ≤ k.getD 0 ∧ k.getD 0 < 2 ^ 63 ∧ SqB K tp H1 a xs ∧ R (IteG K tp (k.getD 0) a) H1
theorem enum_fp {X : Cx} {pins : List (Addr × Obj)} {σ : L2.St} {H : Hp} {s s' : Shared} (I : Inv X pins σ H s) : ∀ b ∈ [s.heap.objs.size + 1, s.heap.objs.size], s.heap.objs.size ≤ b := fun b hb => by
  have e' : b = s.heap.objs.size + 1 ∨ b = s.heap.objs.size := by simpa using hb
  rcases e' with z | z
  · rw [z]; exact Nat.le_add_right _ _
  · rw [z]; exact Nat.le_refl _
theorem pi_enumG1 {X : Cx} {e : Expr} {ta : TA} {p pos tpos : Pos} {elts : List Expr} {kk : Nat} (hg : Gl X "enumerate") (hm : X.mg "enumerate" = none) (ha : PA X [e] ta) (hs : starEach [e] X.env = [(false, eval e X.env)]) :
    PI X (.Tuple elts kk tpos) (.Call (.Name "enumerate" p) [e] [] pos) (iEnumG X.K none ta) := by
  refine ⟨fun pins s σ H R I h => ?_⟩
  refine Call_ (ld_blt I hg hm boot_enumerate (PyProof.Rows.callWith_type1 (thn (ha.run pos pins s σ H _ I h) fun us s1 ⟨vs, H1, I1, r1, q1⟩ => ?_) hs rfl))
  obtain ⟨tp, a, xs, ex, k0, k1, hq, q⟩ := q1
  have ex : vs = [.ref a] := ex
  subst ex
  cases r1 with
  | cons r rr =>
    cases rr
    cases r
    obtain ⟨its, rv, p', hz⟩ := seq_obj I1 hq
    refine enum_begins1 (begins_seq tp a its.toArray) p' fun h' he hit hsz hk => wpAny_pyIter_enum he ?_
    have I2 : Inv X pins σ H1 { s1 with heap := h' } := I1.kept (t' := s1.toks) hk
    refine ⟨s1.heap.objs.size + 1, [s1.heap.objs.size + 1, s1.heap.objs.size], _, _, H1, rfl, I2, turn_enumG tp 0 a (s1.heap.objs.size + 1) s1.heap.objs.size, ⟨⟨.none, he⟩, itr_of hit, Nat.succ_ne_self _⟩, fun b hb => ?_, q⟩
    have hle := enum_fp (s' := s1) I1 b hb
    exact I1.fpOk hle (I1.hok.fresh hle)
theorem pi_enumG2 {X : Cx} {e f : Expr} {j : Int} {ta : TA} {p pos tpos : Pos} {elts : List Expr} {kk : Nat} (hg : Gl X "enumerate") (hm : X.mg "enumerate" = none) (ha : PA X [e, f] ta) (hs : starEach [e, f] X.env = [(false, eval e X.env), (false, eval f X.env)]) (hs2 : starEach [f] X.env = [(false, eval f X.env)]) :
    PI X (.Tuple elts kk tpos) (.Call (.Name "enumerate" p) [e, f] [] pos) (iEnumG X.K (some j) ta) := by
  refine ⟨fun pins s σ H R I h => ?_⟩
  refine Call_ (ld_blt I hg hm boot_enumerate (PyProof.Rows.callWith_type1 (thn (ha.run pos pins s σ H _ I h) fun us s1 ⟨vs, H1, I1, r1, q1⟩ => ?_) (by rw [hs, hs2]) (by rw [hs2]; rfl)))
  obtain ⟨tp, a, xs, ex, k0, k1, hq, q⟩ := q1
  have ex : vs = [.ref a, .int j] := ex
  subst ex
  cases r1 with
  | cons r rr =>
    cases rr with
    | cons r2 rr =>
      cases rr
      cases r
      obtain ⟨t, rfl⟩ := r2
      obtain ⟨its, rv, p', hz⟩ := seq_obj I1 hq
      refine enum_begins (begins_seq tp a its.toArray) p' k0 k1 fun h' he hit hsz hk => wpAny_pyIter_enum he ?_
      have I2 : Inv X pins σ H1 { s1 with heap := h' } := I1.kept (t' := s1.toks) hk
      have he' : IsEnum h' (s1.heap.objs.size + 1) s1.heap.objs.size (j + ((0 : Nat) : Int)) .none := by
        rw [show j + ((0 : Nat) : Int) = j by omega]; exact he
      refine ⟨s1.heap.objs.size + 1, [s1.heap.objs.size + 1, s1.heap.objs.size], _, _, H1, rfl, I2, turn_enumG tp j a (s1.heap.objs.size + 1) s1.heap.objs.size, ⟨⟨.none, he'⟩, itr_of hit, Nat.succ_ne_self _⟩, fun b hb => ?_, q⟩
      have hle := enum_fp (s' := s1) I1 b hb
      exact I1.fpOk hle (I1.hok.fresh hle)
theorem SqB.mono {K : PySem.W.Frag} {tp : Bool} {H H' : Hp} {a : Addr} {xs : List V} (h : ∀ b o, H b = some o → H' b = some o) (q : SqB K tp H a xs) : SqB K tp H' a xs := by
  cases tp with
  | true => exact sqT_mono h q
  | false => exact sqL_mono h q
section
variable {T : Sta} {C : Cfg} {P : Phi} {X : Cx}
theorem Wk.enum {F : Hp} {A : List Addr} {a : Addr} {xs : List V} {ds : List D} {K : PySem.W.Frag} {tp : Bool} {k : Int} (G : Hp → Prop) (hG : ∀ H, G H → SqB K tp H a xs) (r : Reps T F A ds xs) : Wk T (IteG K tp k a) (enmL k ds) F A G := by
  refine ⟨YPair (fun i => some (.int (k + (i : Nat)))) (fun i => xs[i]?), ⟨fun i H hi q => ?_, fun H q => ?_, fun i H v H' hi q y => ?_⟩, fun i Ow H H' x F1 A1 u hi ex rl y => ?_⟩
  · rw [enmL_len, r.length] at hi
    exact ⟨xs, xs[i], hG H q, by simp [hi]⟩
  · exact ⟨xs, hG H q, by rw [enmL_len, r.length]⟩
  · obtain ⟨Tn, x, h1, h2, h3, h4⟩ := y
    exact ⟨Tn, .int (k + (i : Nat)), x, h1, h2, h3, rfl, h4 xs (hG H q)⟩
  · obtain ⟨Tn, x1, x2, rfl, hT, e, h1, h2⟩ := y
    cases h1
    obtain ⟨d', e2, r2⟩ := r.getV h2
    obtain ⟨F2, a1, a2, a3⟩ := pair_laid rl hT e (.int _) (r2.mono ex)
    exact ⟨_, F2, enmL_get e2, a1, a2, a3⟩
/-- the walk that an enumerate starts -/
theorem enum_go (hK : X.K = T.K) {Ow : Addr → Option Nat} {F H : Hp} {A : List Addr} {d : D} {k : Option Int} {u : U} {v : V} {R : L2.It → Hp → Prop} (rl : Rl T F A Ow H u) (r : Rep T F A d v) (p : PostI T Ow F A H (lift (enmD k d) u) true R) :
    ∃ tp a xs, v = .ref a ∧ -(2 ^ 63) ≤ k.getD 0 ∧ k.getD 0 < 2 ^ 63 ∧ SqB X.K tp H a xs ∧ R (IteG X.K tp (k.getD 0) a) H := by
  have key : ∀ (tp : Bool) (a : Addr) (xs : List V) (ds : List D), v = .ref a → SqB X.K tp F a xs → Reps T F A ds xs → itsOf d = some ds → ∃ tp a xs, v = .ref a ∧ -(2 ^ 63) ≤ k.getD 0 ∧ k.getD 0 < 2 ^ 63 ∧ SqB X.K tp H a xs ∧ R (IteG X.K tp (k.getD 0) a) H := by
    intro tp a xs ds e q rs ei
    unfold enmD at p
    rw [ei] at p
    by_cases h : rngOk (k.getD 0) = true
    · have p : PostI T Ow F A H (lift (if rngOk (k.getD 0) = true then some (enmL (k.getD 0) ds) else none) u) true R := p
      rw [if_pos h] at p
      have hb := rngOk_of h
      have p : PostI T Ow F A H (.ok (enmL (k.getD 0) ds) u) true R := p
      refine ⟨tp, a, xs, e, by omega, by omega, q.mono rl.sub, ?_⟩
      exact p _ F A H (fun H2 => SqB X.K tp H2 a xs) (.refl _ _ _) rl (.enum _ (fun _ h => h) rs) (q.mono rl.sub) (fun F2 A2 H2 g r => q.mono (go_sub g r)) (fun H2 z _ => q.mono z) fun H2 z => q.mono (fr_sub rl z)
    · have p : PostI T Ow F A H (lift (if rngOk (k.getD 0) = true then some (enmL (k.getD 0) ds) else none) u) true R := p
      rw [if_neg h] at p; exact p.elim
  cases d <;> try exact p.elim
  · obtain ⟨a, vs, e, h, rs⟩ := rep_tup r
    exact key true a vs _ e (by rw [hK]; exact h) rs rfl
  · obtain ⟨a, vs, e, h, rs⟩ := rep_lst r
    exact key false a vs _ e (.inl (.inl h)) rs rfl
  · rename_i ns
    obtain ⟨a, e, h⟩ := rep_scr r
    exact key false a _ _ e (by rw [hK]; exact h) (Reps.ofInts ns) rfl
theorem snd_i_enm1 (hK : X.K = T.K) {elts : List Expr} {kk : Nat} {tpos p pos : Pos} {a : CE} {a' : Expr} (hg : Gl X "enumerate") (hm : X.mg "enumerate" = none) (ha : PE X a' (tE T C P a)) (hn : notStar a' = true) : PI X (.Tuple elts kk tpos) (.Call (.Name "enumerate" p) [a'] [] pos) (tI T C P (.enm a none)) := by
  refine (pi_enumG1 hg hm (pa_cons ha pa_nil (star_cons X.env hn)) (star_cons X.env hn)).weak fun σ H R ⟨F, A, Ow, env, u, at_, p⟩ => ?_
  have p : PostI T Ow F A H ((denE C P a env u).bind fun d => lift (enmD none d)) true R := p
  refine ⟨F, A, Ow, env, u, at_, (p.bind (R1 := RV T)).imp fun x H1 ⟨d1, u1, F1, A1, g1, rl1, r1, p1⟩ => ?_⟩
  obtain ⟨tp, q, xs, e, z⟩ := enum_go hK rl1 r1 p1
  exact ⟨tp, q, xs, by rw [e], z⟩
theorem snd_i_enm2 (hK : X.K = T.K) {elts : List Expr} {kk : Nat} {tpos p pos : Pos} {a : CE} {a' f' : Expr} {j : Int} (hg : Gl X "enumerate") (hm : X.mg "enumerate" = none) (ha : PE X a' (tE T C P a)) (hn : notStar a' = true) (hf : PE X f' (tE T C P (.cst (.int j)))) (hn' : notStar f' = true) : PI X (.Tuple elts kk tpos) (.Call (.Name "enumerate" p) [a', f'] [] pos) (tI T C P (.enm a (some j))) := by
  have e1 : starEach [a', f'] X.env = [(false, eval a' X.env), (false, eval f' X.env)] := by rw [star_cons X.env hn, star_cons X.env hn']; rfl
  refine (pi_enumG2 (j := j) hg hm (pa_cons ha (pa_cons hf pa_nil (star_cons X.env hn')) (star_cons X.env hn)) e1 (star_cons X.env hn')).weak fun σ H R ⟨F, A, Ow, env, u, at_, p⟩ => ?_
  have p : PostI T Ow F A H ((denE C P a env u).bind fun d => lift (enmD (some j) d)) true R := p
  refine ⟨F, A, Ow, env, u, at_, (p.bind (R1 := RV T)).imp fun x H1 ⟨d1, u1, F1, A1, g1, rl1, r1, p1⟩ => ?_⟩
  refine ⟨F1, A1, Ow, env, u1, at_.go g1 rl1, ?_⟩
  show Post T Ow F1 A1 H1 (.ok (.int j) u1) (RV T) _
  intro b F2 A2 H2 g2 rl2 r2
  obtain rfl := rep_int r2
  have p2 : PostI T Ow F2 A2 H2 (lift (enmD (some j) d1) u1) true R := by
    revert p1
    cases lift (enmD (some j) d1) u1 with
    | ok ds u2 => exact fun p J F' A' H' G g' rl' => p J F' A' H' G (g2.trans g') rl'
    | exc c a u => exact fun p => p
    | bad => exact fun p => p
  obtain ⟨tp, q, xs, e, z⟩ := enum_go hK rl2 (r1.mono g2.ext) p2
  exact ⟨tp, q, xs, by rw [e], z⟩
end
end Lv

end Part_Lev4

section Part_Lev5
set_option maxRecDepth 100000
set_option maxHeartbeats 2000000
/-! Lev5: plain targets; comprehensions. -/
namespace Lv
open PySem PySem.Spec PyProof.Rows L2

mutual
def pureT : Tg → Bool
  | .nm _ => true
  | .tp ts => pureTs ts
  | .ix _ _ => false
def pureTs : Tgs → Bool
  | .nil => true
  | .cons t ts => pureT t && pureTs ts
end
mutual
def slotsT : Tg → List Nat
  | .nm i => [i]
  | .tp ts => slotsTs ts
  | .ix _ _ => []
def slotsTs : Tgs → List Nat
  | .nil => []
  | .cons t ts => slotsT t ++ slotsTs ts
end
def lenTs : Tgs → Nat
  | .nil => 0
  | .cons _ ts => lenTs ts + 1
/-! ### stores that are forgotten -/
theorem wipe_set {σ : L2.St} {i : Nat} {x : Option V} : ∀ {vs : List Nat}, i ∈ vs → wipe (σ.set i x) vs = wipe σ vs
  | [], h => by cases h
  | v :: vs, h => by
    by_cases hv : i ∈ vs
    · show (wipe (σ.set i x) vs).set v none = _
      rw [wipe_set hv]; rfl
    · have e : i = v := by
        rcases List.mem_cons.mp h with e | e
        · exact e
        · exact absurd e hv
      subst e
      show (wipe (σ.set i x) vs).set i none = (wipe σ vs).set i none
      rw [wipe_comm hv]
      rw [List.set_set]
where
  wipe_comm : ∀ {vs : List Nat}, i ∉ vs → wipe (σ.set i x) vs = (wipe σ vs).set i x
  | [], _ => rfl
  | v :: vs, h => by
    have h1 : v ≠ i := fun e => h (by rw [e]; exact List.mem_cons_self)
    have h2 : i ∉ vs := fun m => h (List.mem_cons_of_mem _ m)
    show (wipe (σ.set i x) vs).set v none = ((wipe σ vs).set v none).set i x
    rw [wipe_comm h2, List.set_comm _ _ h1]
theorem wipe_wipe {σ : L2.St} {vs : List Nat} : ∀ {ws : List Nat}, (∀ i ∈ ws, i ∈ vs) → wipe (wipe σ ws) vs = wipe σ vs
  | [], _ => rfl
  | w :: ws, h => by
    show wipe ((wipe σ ws).set w none) vs = _
    rw [wipe_set (h w List.mem_cons_self)]
    exact wipe_wipe fun i hi => h i (List.mem_cons_of_mem _ hi)
theorem wipeS_length (env : Env) : ∀ vs : List Nat, (wipeS env vs).length = env.length
  | [] => rfl
  | v :: vs => by
    show (List.set _ _ _).length = _
    rw [List.length_set]; exact wipeS_length env vs
theorem wipeS_some {env : Env} {i : Nat} {s : Sl} (hs : s ≠ .no) : ∀ {vs : List Nat}, (wipeS env vs)[i]? = some s → env[i]? = some s ∧ i ∉ vs
  | [], h => ⟨h, by simp⟩
  | v :: vs, h => by
    have h : (List.set (wipeS env vs) v .no)[i]? = some s := h
    by_cases hi : v = i
    · subst hi
      by_cases hv : v < (wipeS env vs).length
      · rw [List.getElem?_set_self hv] at h; cases h; exact absurd rfl hs
      · rw [List.getElem?_eq_none (by simpa using hv)] at h; cases h
    · rw [List.getElem?_set_ne hi] at h
      obtain ⟨h1, h2⟩ := wipeS_some hs h
      exact ⟨h1, by simp only [List.mem_cons, not_or]; exact ⟨fun e => hi e.symm, h2⟩⟩
section
variable {T : Sta} {F : Hp} {A : List Addr} {Ow : Addr → Option Nat} {σ : L2.St} {H : Hp} {env : Env}
theorem En.wipe (e : En T F A Ow σ H env) (vs : List Nat) : En T F A Ow (L2.wipe σ vs) H (wipeS env vs) := by
  refine ⟨by rw [wipe_length, wipeS_length]; exact e.len, fun i d h => ?_, fun i ds h => ?_⟩
  · obtain ⟨h1, h2⟩ := wipeS_some (fun q => by cases q) h
    obtain ⟨v, h3, h4⟩ := e.val i d h1
    exact ⟨v, by rw [wipe_out h2]; exact h3, h4⟩
  · obtain ⟨h1, h2⟩ := wipeS_some (fun q => by cases q) h
    obtain ⟨p, vs', h3, h4⟩ := e.own i ds h1
    exact ⟨p, vs', by rw [wipe_out h2]; exact h3, h4⟩
theorem En.set (e : En T F A Ow σ H env) {i : Nat} {d : D} {v : V} (r : Rep T F A d v) : En T F A Ow (σ.set i (some v)) H (setS env i (.val d)) := by
  have hl := e.len
  refine ⟨by show _ = (List.set _ _ _).length; rw [List.length_set, List.length_set]; exact e.len, fun j d' h => ?_, fun j ds h => ?_⟩
  · have h : (List.set env i (.val d))[j]? = some (.val d') := h
    by_cases hj : i = j
    · subst hj
      by_cases hi : i < env.length
      · rw [List.getElem?_set_self hi] at h
        cases h
        exact ⟨v, by rw [List.getElem?_set_self (by rw [hl]; exact hi)], r⟩
      · rw [List.getElem?_eq_none (by rw [List.length_set]; omega)] at h; cases h
    · rw [List.getElem?_set_ne hj] at h
      obtain ⟨v', h1, h2⟩ := e.val j d' h
      exact ⟨v', by rw [List.getElem?_set_ne hj]; exact h1, h2⟩
  · have h : (List.set env i (.val d))[j]? = some (.own ds) := h
    by_cases hj : i = j
    · subst hj
      by_cases hi : i < env.length
      · rw [List.getElem?_set_self hi] at h
        cases h
      · rw [List.getElem?_eq_none (by rw [List.length_set]; omega)] at h; cases h
    · rw [List.getElem?_set_ne hj] at h
      obtain ⟨p, vs, h1, h2⟩ := e.own j ds h
      exact ⟨p, vs, by rw [List.getElem?_set_ne hj]; exact h1, h2⟩
end
def tGp (T : Sta) (C : Cfg) (P : Phi) (t : Tg) : TG := fun v σ H Q => ∃ F A Ow env u d, At T F A Ow σ H env u ∧ Rep T F A d v ∧ ∃ env', denT C P t d env u = .ok env' u ∧ ∀ σ', En T F A Ow σ' H env' → (∀ vs : List Nat, (∀ i ∈ slotsT t, i ∈ vs) → wipe σ' vs = wipe σ vs) → Q σ' H
def tGps (T : Sta) (C : Cfg) (P : Phi) (ts : Tgs) : TGs := fun v σ H Q => ∃ F A Ow env u d, At T F A Ow σ H env u ∧ Reps T F A d v ∧ ∃ env', denTs C P ts d env u = .ok env' u ∧ ∀ σ', En T F A Ow σ' H env' → (∀ vs : List Nat, (∀ i ∈ slotsTs ts, i ∈ vs) → wipe σ' vs = wipe σ vs) → Q σ' H
theorem _root_.L2.PG.weak {X : Cx} {e : Expr} {t t' : TG} (h : PG X e t) (w : ∀ v σ H Q, t' v σ H Q → t v σ H Q) : PG X e t' := ⟨fun pins s σ H v u Q I r q => h.run pins s σ H v u Q I r (w v σ H Q q)⟩
theorem _root_.L2.PGs.weak {X : Cx} {e : List Expr} {t t' : TGs} (h : PGs X e t) (w : ∀ v σ H Q, t' v σ H Q → t v σ H Q) : PGs X e t' := ⟨fun pins s σ H v u Q I r q => h.run pins s σ H v u Q I r (w v σ H Q q)⟩
theorem _root_.L2.PTs.weak {X : Cx} {e : List Expr} {t t' : TT} (h : PTs X e t) (w : ∀ σ H Q, t' σ H Q → t σ H Q) : PTs X e t' := ⟨fun pins s σ H Q I q => h.run pins s σ H Q I (w σ H Q q)⟩
theorem asg_cons {e : Expr} {es : List Expr} (env : PySem.Env) (h : notStar e = true) : assignEach (e :: es) env = (false, assign e env) :: assignEach es env := by
  cases e <;> first | rfl | cases h
theorem asg_len (env : PySem.Env) : ∀ {es : List Expr}, es.all notStar = true → (assignEach es env).length = es.length ∧ (assignEach es env).findIdx? (·.1) = none
  | [], _ => ⟨rfl, rfl⟩
  | e :: es, h => by
    rw [List.all_cons, Bool.and_eq_true] at h
    obtain ⟨h1, h2⟩ := asg_len env (es := es) h.2
    rw [asg_cons env h.1]
    refine ⟨congrArg (· + 1) h1, ?_⟩
    rw [List.findIdx?_cons, h2]; rfl
section
variable {T : Sta} {C : Cfg} {P : Phi} {X : Cx} {pos : Pos}
theorem snd_t_nm {i : Nat} {x : Str} (hNd : X.N.Nodup) (hN : X.N[i]? = some x) (hx : Loc X.env.scope x) (hf : X.fn x = true ∨ X.env.scope.names.lookup x = some .local) : PG X (.Name x pos) (tGp T C P (.nm i)) := by
  refine (pg_name hNd hN hx hf).weak fun v σ H Q ⟨F, A, Ow, env, u, d, at_, r, env', e, q⟩ => ?_
  have e : Res.ok (setS env i (.val d)) u = .ok env' u := e
  cases e
  exact q _ (at_.en.set r) fun vs h => wipe_set (h i (by simp [slotsT]))
theorem snd_t_nil : PGs X [] (tGps T C P .nil) := by
  refine pgs_nil.weak fun v σ H Q ⟨F, A, Ow, env, u, d, at_, r, env', e, q⟩ => ?_
  cases d with
  | nil =>
    cases r
    have e : Res.ok env u = .ok env' u := e
    cases e
    exact ⟨rfl, q _ at_.en fun vs _ => rfl⟩
  | cons d ds => have e : (Res.bad : Res Env) = .ok env' u := e; cases e
theorem snd_t_cons {t : Tg} {ts : Tgs} {e : Expr} {es : List Expr} (hp : ∀ d env u u1 env1, denT C P t d env u = .ok env1 u1 → u1 = u) (h1 : PG X e (tGp T C P t)) (h2 : PGs X es (tGps T C P ts)) (hn : notStar e = true) : PGs X (e :: es) (tGps T C P (.cons t ts)) := by
  refine (pgs_cons h1 h2 (by rw [asg_cons X.env hn]; rfl)).weak fun v σ H Q ⟨F, A, Ow, env, u, d, at_, r, env', e, q⟩ => ?_
  cases d with
  | nil => have e : (Res.bad : Res Env) = .ok env' u := e; cases e
  | cons d ds =>
    cases r with
    | cons r rs =>
      have e : (denT C P t d env u).bind (fun env1 => denTs C P ts ds env1) = .ok env' u := e
      cases q1 : denT C P t d env u with
      | ok env1 u1 =>
        obtain rfl := hp _ _ _ _ _ q1
        rw [q1] at e
        have e : denTs C P ts ds env1 u1 = .ok env' u1 := e
        refine ⟨_, _, rfl, F, A, Ow, env, u1, d, at_, r, env1, q1, fun σ1 en1 hw1 => ?_⟩
        refine ⟨F, A, Ow, env1, u1, ds, ⟨at_.rl, en1⟩, rs, env', e, fun σ2 en2 hw2 => q σ2 en2 fun vs h => ?_⟩
        rw [hw2 vs fun i hi => h i (by simp [slotsTs, hi]), hw1 vs fun i hi => h i (by simp [slotsTs, hi])]
      | exc c a u1 => rw [q1] at e; cases e
      | bad => rw [q1] at e; cases e
theorem snd_t_tp (hc : X.calm = true) (hK : X.K = T.K) {ts : Tgs} {es : List Expr} {k : Nat} (h : PGs X es (tGps T C P ts)) (hn : es.all notStar = true) (hl : lenTs ts = es.length) : PG X (.Tuple es k pos) (tGp T C P (.tp ts)) := by
  obtain ⟨a1, a2⟩ := asg_len X.env hn
  refine (pg_tup hc h a1 a2).weak fun v σ H Q ⟨F, A, Ow, env, u, d, at_, r, env', e, q⟩ => ?_
  cases d <;> try (have e : (Res.bad : Res Env) = .ok env' u := e; cases e)
  rename_i ds
  obtain ⟨p, xs, rfl, hq, rs⟩ := rep_tup r
  have e : denTs C P ts ds env u = .ok env' u := e
  have hlen : ∀ (ts : Tgs) (ds : List D) (env : Env) (u u' : U) (env' : Env), denTs C P ts ds env u = .ok env' u' → lenTs ts = ds.length := by
    intro ts
    induction ts using Tgs.rec (motive_1 := fun _ => True) (motive_3 := fun _ => True) (motive_4 := fun _ => True) (motive_5 := fun _ => True) (motive_6 := fun _ => True) (motive_7 := fun _ => True) (motive_8 := fun _ => True) (motive_9 := fun _ => True) <;> try trivial
    · intro ds env u u' env' e
      cases ds with
      | nil => rfl
      | cons d ds => have e : (Res.bad : Res Env) = .ok env' u' := e; cases e
    · rename_i t ts _ ih
      intro ds env u u' env' e
      cases ds with
      | nil => have e : (Res.bad : Res Env) = .ok env' u' := e; cases e
      | cons d ds =>
        have e : (denT C P t d env u).bind (fun env1 => denTs C P ts ds env1) = .ok env' u' := e
        cases q1 : denT C P t d env u with
        | ok env1 u1 =>
          rw [q1] at e
          exact congrArg (· + 1) (ih ds env1 u1 u' env' e)
        | exc c a u1 => rw [q1] at e; cases e
        | bad => rw [q1] at e; cases e
  refine ⟨p, xs, rfl, by rw [hK]; exact sqT_mono at_.rl.sub hq, ?_, F, A, Ow, env, u, ds, at_, rs, env', e, q⟩
  rw [← rs.length, ← hlen ts ds env u u env' e, hl]
end
/-! plain targets leave the state -/
mutual
theorem pureT_ok (C : Cfg) (P : Phi) : ∀ (t : Tg), pureT t = true → ∀ (d : D) (env : Env) (u u1 : U) (env1 : Env), denT C P t d env u = .ok env1 u1 → u1 = u
  | .nm i, _, d, env, u, u1, env1, e => by
    have e : Res.ok (setS env i (.val d)) u = .ok env1 u1 := e
    cases e; rfl
  | .tp ts, h, d, env, u, u1, env1, e => by
    cases d <;> try (have e : (Res.bad : Res Env) = .ok env1 u1 := e; cases e)
    rename_i ds
    exact pureTs_ok C P ts h ds env u u1 env1 e
  | .ix _ _, h, _, _, _, _, _, _ => by cases h
theorem pureTs_ok (C : Cfg) (P : Phi) : ∀ (t : Tgs), pureTs t = true → ∀ (d : List D) (env : Env) (u u1 : U) (env1 : Env), denTs C P t d env u = .ok env1 u1 → u1 = u
  | .nil, _, [], env, u, u1, env1, e => by
    have e : Res.ok env u = .ok env1 u1 := e
    cases e; rfl
  | .nil, _, _ :: _, env, u, u1, env1, e => by have e : (Res.bad : Res Env) = .ok env1 u1 := e; cases e
  | .cons _ _, _, [], env, u, u1, env1, e => by have e : (Res.bad : Res Env) = .ok env1 u1 := e; cases e
  | .cons t ts, h, d :: ds, env, u, u1, env1, e => by
    rw [show pureTs (.cons t ts) = (pureT t && pureTs ts) from rfl, Bool.and_eq_true] at h
    have e : (denT C P t d env u).bind (fun env1 => denTs C P ts ds env1) = .ok env1 u1 := e
    cases q1 : denT C P t d env u with
    | ok env2 u2 =>
      rw [q1] at e
      have e9 : denTs C P ts ds env2 u2 = .ok env1 u1 := e
      exact (pureTs_ok C P ts h.2 ds env2 u2 u1 env1 e9).trans (pureT_ok C P t h.1 d env u u2 env2 q1)
    | exc c a u1 => rw [q1] at e; cases e
    | bad => rw [q1] at e; cases e
end

/-! ### tests of a clause -/
def tCs (T : Sta) (C : Cfg) (P : Phi) (cs : CEs) : TT := tR T (denCs C P cs) (fun _ => REq)
section
variable {T : Sta} {C : Cfg} {P : Phi} {X : Cx} {pos : Pos}
theorem snd_cs_nil : PTs X [] (tCs T C P .nil) := pts_nil.weak fun σ H Q ⟨F, A, Ow, env, u, at_, p⟩ => by
  have p : Post T Ow F A H (.ok true u) REq Q := p
  exact p.ret at_.rl rfl
theorem snd_cs_one {c : CE} {e : Expr} (h : PT X e (tT T C P c)) : PTs X [e] (tCs T C P (.cons c .nil)) := pts_one (h.weak fun _ _ _ h => h)
end

/-! ### the comprehension -/
theorem Res.bind_assoc {α β γ : Type} (r : Res α) (f : α → M β) (g : β → M γ) : (r.bind f).bind g = r.bind fun a u => (f a u).bind g := by
  cases r <;> rfl
theorem Res.bind_ok {α : Type} (r : Res α) : r.bind (fun a u => .ok a u) = r := by cases r <;> rfl
theorem Rl.updD {T : Sta} {F H : Hp} {A : List Addr} {Ow : Addr → Option Nat} {u : U} {p : Addr} {o : HO} (rl : Rl T F A Ow H u) (h1 : F p = none) (h2 : p ∉ A) : Rl T F A Ow (upd H p o) u := by
  refine ⟨fun b o' h => ?_, rl.len, rl.nd, fun i q ds e1 e2 => ?_, fun q i e => ?_⟩
  · have hne : b ≠ p := fun e => by rw [e, h1] at h; cases h
    rw [upd_ne hne]; exact rl.sub b o' h
  · obtain ⟨a1, vs, a2, a3⟩ := rl.cel i q ds e1 e2
    have hne : q ≠ p := fun e => h2 (by rw [← e]; exact List.mem_of_getElem? e1)
    exact ⟨a1, vs, by rw [upd_ne hne]; exact a2, a3⟩
  · obtain ⟨a1, a2, a3⟩ := rl.ow q i e
    refine ⟨a1, a2, ?_⟩
    by_cases hq : q = p
    · rw [hq, upd_same]; simp
    · rw [upd_ne hq]; exact a3
theorem Go.updD {F F' H H' : Hp} {A A' : List Addr} {p : Addr} {o : HO} (g : Go F A H F' A' H') (h : H p = Option.none) : Go F A H F' A' (upd H' p o) := by
  refine ⟨g.ext, fun b o' hb hA => ?_, g.nw, g.nf, fun q hq => ?_⟩
  · have hne : b ≠ p := fun e => by rw [e, h] at hb; cases hb
    rw [upd_ne hne]; exact g.fr b o' hb hA
  · by_cases e : q = p
    · rw [e, upd_same]; simp
    · rw [upd_ne e]; exact g.kp q hq
/-- an address that is new and not among what was added stays so -/
theorem Go.notF {F F' H H' : Hp} {A A' : List Addr} (g : Go F A H F' A' H') {p : Addr} (h1 : F p = Option.none) (h2 : H p ≠ Option.none) : F' p = Option.none := by
  cases q : F' p with
  | none => rfl
  | some o =>
    rcases g.nf p o q with z | z
    · rw [h1] at z; cases z
    · exact absurd z h2
theorem Go.notA {F F' H H' : Hp} {A A' : List Addr} (g : Go F A H F' A' H') {p : Addr} (h1 : p ∉ A) (h2 : H p ≠ Option.none) : p ∉ A' := fun q => by
  rcases g.nw p q with z | z
  · exact h1 z
  · exact h2 z
noncomputable def lcBody (C : Cfg) (P : Phi) (elt : CE) (vs : List Nat) (tg : Tg) (cs : CEs) (env : Env) (d : D) : M (Option D) := do
  let env1 ← denT C P tg d (wipeS env vs)
  if (← denCs C P cs env1) then return some (← denE C P elt env1) else ret none
theorem denF_lc (C : Cfg) (P : Phi) (elt : CE) (vs : List Nat) (tg : Tg) (it : It) (cs : CEs) (env : Env) (u : U) :
    denF C P (.lc elt vs tg it cs) env u = (denI C P it env u).bind fun items => if items.length ≤ line then lcRun (lcBody C P elt vs tg cs env) items else stuck := by
  unfold denF
  rfl
def notSet : Expr → Bool
  | .Set .. => false
  | _ => true
theorem fold_no {e : Expr} {env : PySem.Env} (h : notSet e = true) : ∀ x, foldedSetIterable e env x = pure x := by
  intro x
  cases e <;> first | rfl | cases h
theorem lcRun_cons (body : D → M (Option D)) (d : D) (ds : List D) (u : U) : lcRun body (d :: ds) u = (body d u).bind fun x u1 => (lcRun body ds u1).bind fun r u2 => .ok (match x with | some y => y :: r | none => r) u2 := rfl
theorem lc_tr {T : Sta} {C : Cfg} {P : Phi} {e : CE} {t : Tg} {it : It} {cs : CEs} {vs0 : List Nat} (hp : pureT t = true) (hv : ∀ i ∈ slotsT t, i ∈ vs0) {σ : L2.St} {H : Hp} {Q : VK} (h : tF T C P (.lc e vs0 t it cs) σ H Q) : tLc (tI T C P it) (tGp T C P t) (tCs T C P cs) (tE T C P e) vs0 σ H Q := by
  obtain ⟨F, A, Ow, env, u, at_, p⟩ := h
  rw [denF_lc] at p
  refine ⟨F, A, Ow, env, u, at_, ?_⟩
  revert p
  cases hd : denI C P it env u with
  | exc c a u1 => exact fun p => p
  | bad => exact fun p => p
  | ok items u1 =>
    intro p J F' A' H' G g rl wk gH hG1 hG2 hG3
    have p : Post T Ow F A H ((if items.length ≤ line then lcRun (lcBody C P e (vs0) t cs env) items else stuck) u1) (FrRep T Ow H) Q := p
    by_cases hlen : items.length ≤ line
    · rw [if_pos hlen] at p
      have p := p.shift g
      intro Da hD
      obtain ⟨Y, walk, hY⟩ := wk
      have owD : Ow Da = none := by
        cases q : Ow Da with
        | none => rfl
        | some i => exact absurd hD (rl.ow Da i q).2.2
      have H0D : H Da = none := by
        cases q : H Da with
        | none => rfl
        | some o => exact absurd hD (g.kp Da (by rw [q]; simp))
      have FD : F' Da = none := by
        cases q : F' Da with
        | none => rfl
        | some o => rw [rl.sub _ _ q] at hD; cases hD
      have AD : Da ∉ A' := fun q => by
        obtain ⟨i, hi, e⟩ := List.getElem_of_mem q
        have h1 : A'[i]? = some Da := by rw [List.getElem?_eq_getElem hi, e]
        have h2 : i < u1.length := by rw [← rl.len]; exact hi
        obtain ⟨_, vs, h3, _⟩ := rl.cel i Da u1[i] h1 (List.getElem?_eq_getElem h2)
        rw [hD] at h3; cases h3
      refine lc_it walk (fun i H2 => ∃ F2 A2 u2 vacc dacc, Go F' A' H' F2 A2 H2 ∧ Rl T F2 A2 Ow H2 u2 ∧ F2 Da = none ∧ Da ∉ A2 ∧ H2 Da = some (.lst vacc) ∧ Reps T F2 A2 dacc vacc ∧ dacc.length ≤ i ∧
        Post T Ow F' A' H' ((lcRun (lcBody C P e (vs0) t cs env) (items.drop i) u2).bind fun r u3 => .ok (dacc ++ r) u3) (FrRep T Ow H) Q) ?_ ?_ ?_ ?_
      · refine ⟨F', A', u1, [], [], (Go.refl F' A' H').updD hD, rl.updD FD AD, FD, AD, upd_same, .nil, Nat.le_refl _, ?_⟩
        have e1 : (lcRun (lcBody C P e (vs0) t cs env) (items.drop 0) u1).bind (fun r u3 => .ok ([] ++ r) u3) = lcRun (lcBody C P e (vs0) t cs env) items u1 := Res.bind_ok _
        rw [e1]; exact p
      · intro i H2 _ ⟨F2, A2, u2, vacc, dacc, g2, rl2, _⟩
        exact hG3 H2 g2.fr
      · intro i x H2 H3 hi ⟨F2, A2, u2, vacc, dacc, g2, rl2, fD, aD, hD2, ra, la, p2⟩ y
        obtain ⟨d, F3, e1, rl3, g3, r3⟩ := hY i Ow H2 H3 x F2 A2 u2 hi g2.ext rl2 y
        have ed : items.drop i = d :: items.drop (i + 1) := by
          have hi' := List.getElem?_eq_some_iff.mp e1
          rw [List.drop_eq_getElem_cons hi'.1, hi'.2]
        rw [ed, lcRun_cons] at p2
        have hD3 : H3 Da = some (.lst vacc) := g3.fr _ _ hD2 aD
        have fD3 : F3 Da = none := g3.notF fD (by rw [hD2]; simp)
        have g03 := g2.trans g3
        have at3 : At T F3 A2 Ow (wipe σ (vs0)) H3 (wipeS env (vs0)) u2 := ⟨rl3, (at_.en.go at_.rl (g.trans g03)).wipe _⟩
        refine ⟨F3, A2, Ow, _, u2, d, at3, r3, ?_⟩
        have eb : lcBody C P e (vs0) t cs env d u2 = (denT C P t d (wipeS env (vs0)) u2).bind fun env1 u => (denCs C P cs env1 u).bind fun b => if b = true then M.bind (denE C P e env1) fun y => ret (some y) else ret none := rfl
        rw [eb] at p2
        cases hT : denT C P t d (wipeS env (vs0)) u2 with
        | exc c a u1 => rw [hT] at p2; exact p2.elim
        | bad => rw [hT] at p2; exact p2.elim
        | ok env1 u3 =>
          obtain rfl := pureT_ok C P t hp _ _ _ _ _ hT
          rw [hT] at p2
          refine ⟨env1, rfl, fun σ2 en2 hw => ⟨(hw _ hv).trans (wipe_wipe fun _ h => h), F3, A2, Ow, env1, u3, ⟨rl3, en2⟩, ?_⟩⟩
          have p2 : Post T Ow F' A' H' ((((denCs C P cs env1 u3).bind fun b => if b = true then M.bind (denE C P e env1) fun y => ret (some y) else ret none).bind fun x u1 => (lcRun (lcBody C P e (vs0) t cs env) (items.drop (i + 1)) u1).bind fun r u2 => .ok (match x with | some y => y :: r | none => r) u2).bind fun r u3 => .ok (dacc ++ r) u3) (FrRep T Ow H) Q := p2
          cases hC : denCs C P cs env1 u3 with
          | exc c a u1 => rw [hC] at p2; exact p2.elim
          | bad => rw [hC] at p2; exact p2.elim
          | ok b u4 =>
            rw [hC] at p2
            intro b' F4 A4 H4 g4 rl4 eb'
            have eb' : b = b' := eb'
            subst eb'
            have hD4 : H4 Da = some (.lst vacc) := g4.fr _ _ hD3 aD
            have fD4 : F4 Da = none := g4.notF fD3 (by rw [hD3]; simp)
            have aD4 : Da ∉ A4 := g4.notA aD (by rw [hD3]; simp)
            cases b with
            | false =>
              rw [if_neg Bool.false_ne_true]
              refine ⟨F4, A4, u4, vacc, dacc, g03.trans g4, rl4, fD4, aD4, hD4, (ra.mono g3.ext).mono g4.ext, by omega, ?_⟩
              have e2 : ((lcRun (lcBody C P e (vs0) t cs env) (items.drop (i + 1)) u4).bind fun r u2 => .ok r u2) = lcRun (lcBody C P e (vs0) t cs env) (items.drop (i + 1)) u4 := Res.bind_ok _
              have p2 : Post T Ow F' A' H' (((lcRun (lcBody C P e (vs0) t cs env) (items.drop (i + 1)) u4).bind fun r u2 => .ok r u2).bind fun r u3 => .ok (dacc ++ r) u3) (FrRep T Ow H) Q := p2
              rw [e2] at p2; exact p2
            | true =>
              rw [if_pos rfl]
              have p2 : Post T Ow F' A' H' ((((denE C P e env1 u4).bind fun y => ret (some y)).bind fun x u1 => (lcRun (lcBody C P e (vs0) t cs env) (items.drop (i + 1)) u1).bind fun r u2 => .ok (match x with | some y => y :: r | none => r) u2).bind fun r u3 => .ok (dacc ++ r) u3) (FrRep T Ow H) Q := p2
              refine ⟨F4, A4, Ow, env1, u4, ⟨rl4, en2.go rl3 g4⟩, ?_⟩
              cases hE : denE C P e env1 u4 with
              | exc c a u1 => rw [hE] at p2; exact p2.elim
              | bad => rw [hE] at p2; exact p2.elim
              | ok dd u5 =>
                rw [hE] at p2
                intro y5 F5 A5 H5 g5 rl5 r5
                have hD5 : H5 Da = some (.lst vacc) := g5.fr _ _ hD4 aD4
                have fD5 : F5 Da = none := g5.notF fD4 (by rw [hD4]; simp)
                have aD5 : Da ∉ A5 := g5.notA aD4 (by rw [hD4]; simp)
                have ra5 := ((ra.mono g3.ext).mono g4.ext).mono g5.ext
                refine ⟨vacc, hD5, ?_, F5, A5, u5, vacc ++ [y5], dacc ++ [dd], ((g03.trans g4).trans g5).updD hD, rl5.updD fD5 aD5, fD5, aD5, upd_same, ra5.append (.cons r5 .nil), ?_, ?_⟩
                · rw [← ra5.length]
                  have : line = sizeLine := by rw [sizeLine_eq]; rfl
                  omega
                · rw [List.length_append, List.length_singleton]; omega
                · have p2 : Post T Ow F' A' H' (((lcRun (lcBody C P e (vs0) t cs env) (items.drop (i + 1)) u5).bind fun r u2 => .ok (dd :: r) u2).bind fun r u3 => .ok (dacc ++ r) u3) (FrRep T Ow H) Q := p2
                  rw [Res.bind_assoc] at p2
                  have e3 : (fun (r : List D) (u : U) => (Res.ok (dd :: r) u).bind fun r u3 => Res.ok (dacc ++ r) u3) = fun (r : List D) (u3 : U) => Res.ok (dacc ++ [dd] ++ r) u3 := by
                    funext r u
                    show Res.ok (dacc ++ dd :: r) u = Res.ok (dacc ++ [dd] ++ r) u
                    rw [List.append_assoc]; rfl
                  rw [e3] at p2
                  exact p2
      · intro H2 ⟨F2, A2, u2, vacc, dacc, g2, rl2, fD, aD, hD2, ra, la, p2⟩
        rw [List.drop_length] at p2
        have p2 : Post T Ow F' A' H' (.ok (dacc ++ []) u2) (FrRep T Ow H) Q := p2
        rw [List.append_nil] at p2
        exact p2 _ F2 A2 H2 g2 rl2 ⟨Da, vacc, rfl, hD2, fD, aD, owD, H0D, ra⟩
    · rw [if_neg hlen] at p; exact p.elim
theorem snd_lc {T : Sta} {C : Cfg} {P : Phi} {X : Cx} {elt tg iter : Expr} {ifs : List Expr} {scope : Scope} {own : List (Str × Nat)} {pos : Pos} {e : CE} {t : Tg} {it : It} {cs : CEs} (hc : X.calm = true) (hN : X.N.Nodup) (hi : PI X tg iter (tI T C P it)) (ok : BlkOk X.N X.env.scope scope own)
    (hg : ∀ (s : Shared) (H : Hp) (Ca : Addr) (cl : List (Str × Addr)) (fp : List Addr), PG (X.blk s H scope (compEnvC scope cl Ca X.env) fp) tg (tGp T C P t)) (ht : ∀ (s : Shared) (H : Hp) (Ca : Addr) (cl : List (Str × Addr)) (fp : List Addr), PTs (X.blk s H scope (compEnvC scope cl Ca X.env) fp) ifs (tCs T C P cs))
    (he : ∀ (s : Shared) (H : Hp) (Ca : Addr) (cl : List (Str × Addr)) (fp : List Addr), PE (X.blk s H scope (compEnvC scope cl Ca X.env) fp) elt (tE T C P e)) (hs : notSet iter = true) (hp : pureT t = true) (hv : ∀ i ∈ slotsT t, i ∈ own.map (·.2)) :
    PE X (.ListComp elt [⟨tg, iter, ifs, 0⟩] scope pos) (tF T C P (.lc e (own.map (·.2)) t it cs)) := by
  exact (pe_lc hc hN hi ok hg ht he (fold_no hs)).weak fun σ H Q h => lc_tr hp hv h
end Lv

end Part_Lev5

section Part_Lev6
set_option maxRecDepth 100000
set_option maxHeartbeats 2000000
/-! Lev6: targets, statements, loops. -/
namespace Lv
open PySem PySem.Spec PyProof.Rows L2

/-- where the def began -/
structure Bs where
  F : Hp
  A : List Addr
  H : Hp
structure SA (T : Sta) (B : Bs) (F : Hp) (A : List Addr) (Ow : Addr → Option Nat) (σ : L2.St) (H : Hp) (env : Env) (u : U) : Prop where
  go : Go B.F B.A B.H F A H
  rl : Rl T F A Ow H u
  en : En T F A Ow σ H env
  nw : ∀ p i, Ow p = some i → B.H p = none
def Nx (T : Sta) (B : Bs) (F : Hp) (A : List Addr) (env : Env) (u : U) (Q : L2.St → Hp → Prop) : Prop :=
  ∀ (F' : Hp) (A' : List Addr) (Ow : Addr → Option Nat) (σ' : L2.St) (H' : Hp), SA T B F' A' Ow σ' H' env u → Ext F A F' A' → Q σ' H'
def PostS (T : Sta) (B : Bs) (F : Hp) (A : List Addr) (r : Res Out) (D : Ends) : Prop := match r with
  | .ok (.nxt env) u => Nx T B F A env u D.nx
  | .ok (.ret d) u => ∀ (v : V) (F' : Hp) (A' : List Addr) (H' : Hp), Go B.F B.A B.H F' A' H' → Rl T F' A' (fun _ => Option.none) H' u → Rep T F' A' d v → D.rt v H'
  | .ok (.brk env) u => Nx T B F A env u D.bk
  | .ok (.cnt env) u => Nx T B F A env u D.ct
  | _ => False
def PostG (T : Sta) (B : Bs) (F : Hp) (A : List Addr) (r : Res Env) (Q : L2.St → Hp → Prop) : Prop := match r with
  | .ok env u => Nx T B F A env u Q
  | _ => False
section
variable {T : Sta} {B : Bs} {F F' H H' : Hp} {A A' : List Addr} {Ow : Addr → Option Nat} {σ : L2.St} {env : Env} {u u' : U}
theorem SA.at_ (a : SA T B F A Ow σ H env u) : At T F A Ow σ H env u := ⟨a.rl, a.en⟩
theorem SA.step (a : SA T B F A Ow σ H env u) (g : Go F A H F' A' H') (r : Rl T F' A' Ow H' u') : SA T B F' A' Ow σ H' env u' := ⟨a.go.trans g, r, a.en.go a.rl g, a.nw⟩
theorem SA.set (a : SA T B F A Ow σ H env u) {i : Nat} {d : D} {v : V} (r : Rep T F A d v) : SA T B F A Ow (σ.set i (some v)) H (setS env i (.val d)) u := ⟨a.go, a.rl, a.en.set r, a.nw⟩
theorem Nx.mono {Q : L2.St → Hp → Prop} (n : Nx T B F A env u Q) (e : Ext F A F' A') : Nx T B F' A' env u Q := fun F2 A2 Ow2 σ2 H2 a e2 => n F2 A2 Ow2 σ2 H2 a (e.trans e2)
theorem PostS.mono {r : Res Out} {D : Ends} (p : PostS T B F A r D) (e : Ext F A F' A') : PostS T B F' A' r D := by
  revert p
  rcases r with ⟨o, u⟩ | ⟨c, a, u⟩ | _
  · cases o with
    | nxt env => exact fun p => Nx.mono p e
    | ret d => exact fun p => p
    | brk env => exact fun p => Nx.mono p e
    | cnt env => exact fun p => Nx.mono p e
  · exact fun p => p
  · exact fun p => p
theorem PostG.mono {r : Res Env} {Q : L2.St → Hp → Prop} (p : PostG T B F A r Q) (e : Ext F A F' A') : PostG T B F' A' r Q := by
  cases r with
  | ok env u => exact Nx.mono p e
  | exc c a u => exact p
  | bad => exact p
/-- the first piece of a statement's work -/
theorem PostS.bind {γ δ : Type} {r : Res γ} {f : γ → M Out} {D : Ends} {R1 : Hp → List Addr → Hp → γ → δ → Prop} (p : PostS T B F A (r.bind f) D) :
    Post T Ow F A H r R1 (fun x H1 => ∃ a u1 F1 A1, Go F A H F1 A1 H1 ∧ Rl T F1 A1 Ow H1 u1 ∧ R1 F1 A1 H1 a x ∧ PostS T B F1 A1 (f a u1) D) := by
  cases r with
  | ok a u => exact fun b F' A' H' g rl h => ⟨a, u, F', A', g, rl, h, PostS.mono (show PostS T B F A (f a u) D from p) g.ext⟩
  | exc c a u => exact p
  | bad => exact p
theorem PostG.bind {γ δ : Type} {r : Res γ} {f : γ → M Env} {Q : L2.St → Hp → Prop} {R1 : Hp → List Addr → Hp → γ → δ → Prop} (p : PostG T B F A (r.bind f) Q) :
    Post T Ow F A H r R1 (fun x H1 => ∃ a u1 F1 A1, Go F A H F1 A1 H1 ∧ Rl T F1 A1 Ow H1 u1 ∧ R1 F1 A1 H1 a x ∧ PostG T B F1 A1 (f a u1) Q) := by
  cases r with
  | ok a u => exact fun b F' A' H' g rl h => ⟨a, u, F', A', g, rl, h, PostG.mono (show PostG T B F A (f a u) Q from p) g.ext⟩
  | exc c a u => exact p
  | bad => exact p
/-- stores, then what follows -/
theorem PostS.bindG {r : Res Env} {f : Env → M Out} {D : Ends} (p : PostS T B F A (r.bind f) D) : PostG T B F A r (fun σ' H' => ∃ env u F1 A1 Ow, SA T B F1 A1 Ow σ' H' env u ∧ Ext F A F1 A1 ∧ PostS T B F1 A1 (f env u) D) := by
  cases r with
  | ok env u => exact fun F' A' Ow σ' H' a e => ⟨env, u, F', A', Ow, a, e, PostS.mono (show PostS T B F A (f env u) D from p) e⟩
  | exc c a u => exact p
  | bad => exact p
theorem PostG.bindG {r : Res Env} {f : Env → M Env} {Q : L2.St → Hp → Prop} (p : PostG T B F A (r.bind f) Q) : PostG T B F A r (fun σ' H' => ∃ env u F1 A1 Ow, SA T B F1 A1 Ow σ' H' env u ∧ Ext F A F1 A1 ∧ PostG T B F1 A1 (f env u) Q) := by
  cases r with
  | ok env u => exact fun F' A' Ow σ' H' a e => ⟨env, u, F', A', Ow, a, e, PostG.mono (show PostG T B F A (f env u) Q from p) e⟩
  | exc c a u => exact p
  | bad => exact p
theorem PostG.imp {r : Res Env} {Q Q' : L2.St → Hp → Prop} (p : PostG T B F A r Q) (h : ∀ σ H, Q σ H → Q' σ H) : PostG T B F A r Q' := by
  cases r with
  | ok env u => exact fun F' A' Ow σ' H' a e => h _ _ (p F' A' Ow σ' H' a e)
  | exc c a u => exact p
  | bad => exact p
/-! ### own lists -/
def owAdd (Ow : Addr → Option Nat) (p : Addr) (i : Nat) : Addr → Option Nat := fun q => if q = p then some i else Ow q
def owDel (Ow : Addr → Option Nat) (p : Addr) : Addr → Option Nat := fun q => if q = p then none else Ow q
theorem owAdd_same {p : Addr} {i : Nat} : owAdd Ow p i p = some i := if_pos rfl
theorem owAdd_ne {p q : Addr} {i : Nat} (h : q ≠ p) : owAdd Ow p i q = Ow q := if_neg h
theorem owDel_same {p : Addr} : owDel Ow p p = none := if_pos rfl
theorem owDel_ne {p q : Addr} (h : q ≠ p) : owDel Ow p q = Ow q := if_neg h
/-- a new list becomes an own one -/
theorem Rl.addOw (a : Rl T F A Ow H u) {p : Addr} {vs : List V} {i : Nat} (h1 : H p = some (.lst vs)) (h2 : F p = Option.none) (h3 : p ∉ A) : Rl T F A (owAdd Ow p i) H u := by
  refine ⟨a.sub, a.len, a.nd, a.cel, fun q j e => ?_⟩
  by_cases hq : q = p
  · subst hq; exact ⟨h2, h3, by rw [h1]; simp⟩
  · rw [owAdd_ne hq] at e; exact a.ow q j e
theorem En.addOw (a : En T F A Ow σ H env) {p : Addr} {i : Nat} (h4 : Ow p = none) : En T F A (owAdd Ow p i) σ H env := by
  refine ⟨a.len, a.val, fun j ds e => ?_⟩
  obtain ⟨p', vs', e1, e2, e3, e4⟩ := a.own j ds e
  have hp : p' ≠ p := fun z => by rw [z, h4] at e3; cases e3
  exact ⟨p', vs', e1, e2, by rw [owAdd_ne hp]; exact e3, e4⟩
theorem SA.addOw (a : SA T B F A Ow σ H env u) {p : Addr} {vs : List V} {i : Nat} (h1 : H p = some (.lst vs)) (h2 : F p = none) (h3 : p ∉ A) (h4 : Ow p = none) (h5 : B.H p = none) : SA T B F A (owAdd Ow p i) σ H env u := by
  refine ⟨a.go, a.rl.addOw h1 h2 h3, a.en.addOw h4, fun q j e => ?_⟩
  by_cases hq : q = p
  · subst hq; exact h5
  · rw [owAdd_ne hq] at e; exact a.nw q j e
theorem En.setOwn (e : En T F A Ow σ H env) {i : Nat} {ds : List D} {p : Addr} {vs : List V} (h1 : H p = some (.lst vs)) (h2 : Ow p = some i) (r : Reps T F A ds vs) : En T F A Ow (σ.set i (some (.ref p))) H (setS env i (.own ds)) := by
  have hl := e.len
  refine ⟨by show _ = (List.set _ _ _).length; rw [List.length_set, List.length_set]; exact e.len, fun j d' h => ?_, fun j es h => ?_⟩
  · have h : (List.set env i (.own ds))[j]? = some (.val d') := h
    by_cases hj : i = j
    · subst hj
      by_cases hi : i < env.length
      · rw [List.getElem?_set_self hi] at h
        cases h
      · rw [List.getElem?_eq_none (by rw [List.length_set]; omega)] at h; cases h
    · rw [List.getElem?_set_ne hj] at h
      obtain ⟨v', h1, h2⟩ := e.val j d' h
      exact ⟨v', by rw [List.getElem?_set_ne hj]; exact h1, h2⟩
  · have h : (List.set env i (.own ds))[j]? = some (.own es) := h
    by_cases hj : i = j
    · subst hj
      by_cases hi : i < env.length
      · rw [List.getElem?_set_self hi] at h
        cases h
        exact ⟨p, vs, by rw [List.getElem?_set_self (by rw [hl]; exact hi)], h1, h2, r⟩
      · rw [List.getElem?_eq_none (by rw [List.length_set]; omega)] at h; cases h
    · rw [List.getElem?_set_ne hj] at h
      obtain ⟨p, vs, e1, e2⟩ := e.own j es h
      exact ⟨p, vs, by rw [List.getElem?_set_ne hj]; exact e1, e2⟩
theorem SA.setOwn (a : SA T B F A Ow σ H env u) {p : Addr} {vs : List V} {i : Nat} {ds : List D} (h1 : H p = some (.lst vs)) (h2 : Ow p = some i) (r : Reps T F A ds vs) : SA T B F A Ow (σ.set i (some (.ref p))) H (setS env i (.own ds)) u := ⟨a.go, a.rl, a.en.setOwn h1 h2 r, a.nw⟩
/-- an own list changes -/
theorem SA.updOw (a : SA T B F A Ow σ H env u) {p : Addr} {vs ws : List V} {i : Nat} {ds es : List D} (hi : env[i]? = some (.own ds)) (hs : σ[i]? = some (some (.ref p))) (h1 : H p = some (.lst vs)) (h2 : Ow p = some i) (r : Reps T F A es ws) : SA T B F A Ow σ (upd H p (.lst ws)) (setS env i (.own es)) u := by
  obtain ⟨o1, o2, o3⟩ := a.rl.ow p i h2
  have hil : i < env.length := (List.getElem?_eq_some_iff.mp hi).1
  refine ⟨a.go.updD (a.nw p i h2), a.rl.updD o1 o2, ⟨by show _ = (List.set _ _ _).length; rw [List.length_set]; exact a.en.len, fun j d' h => ?_, fun j es' h => ?_⟩, a.nw⟩
  · have h : (List.set env i (.own es))[j]? = some (.val d') := h
    by_cases hj : i = j
    · subst hj
      rw [List.getElem?_set_self hil] at h
      cases h
    · rw [List.getElem?_set_ne hj] at h
      exact a.en.val j d' h
  · have h : (List.set env i (.own es))[j]? = some (.own es') := h
    by_cases hj : i = j
    · subst hj
      rw [List.getElem?_set_self hil] at h
      cases h
      exact ⟨p, ws, hs, upd_same, h2, r⟩
    · rw [List.getElem?_set_ne hj] at h
      obtain ⟨p', vs', e1, e2, e3, e4⟩ := a.en.own j es' h
      have hp : p' ≠ p := fun z => by rw [z, h2] at e3; cases e3; exact hj rfl
      exact ⟨p', vs', e1, by rw [upd_ne hp]; exact e2, e3, e4⟩
/-- a shared list changes -/
theorem SA.updCel (a : SA T B F A Ow σ H env u) {c : Nat} {p : Addr} {vs ws : List V} {es : List D} (hc : A[c]? = some p) (h1 : H p = some (.lst vs)) (r : Reps T F A es ws) : SA T B F A Ow σ (upd H p (.lst ws)) env (u.set c es) := by
  have hcl : c < A.length := (List.getElem?_eq_some_iff.mp hc).1
  have hcu : c < u.length := by rw [← a.rl.len]; exact hcl
  have pA : p ∈ A := List.mem_of_getElem? hc
  have fp : F p = none := (a.rl.cel c p u[c] hc (List.getElem?_eq_getElem hcu)).1
  have hne : ∀ b, (∃ o, F b = some o) → b ≠ p := fun b ⟨o, h⟩ z => by rw [z, fp] at h; cases h
  refine ⟨⟨a.go.ext, fun b o hb hA => ?_, a.go.nw, a.go.nf, fun q hq => ?_⟩, ⟨fun b o h => ?_, by rw [List.length_set]; exact a.rl.len, a.rl.nd, fun i q ds e1 e2 => ?_, fun q i e => ?_⟩, ⟨a.en.len, a.en.val, fun j ds h => ?_⟩, a.nw⟩
  · by_cases hb' : b = p
    · subst hb'
      rcases a.go.nw b pA with z | z
      · exact absurd z hA
      · rw [hb] at z; cases z
    · rw [upd_ne hb']; exact a.go.fr b o hb hA
  · by_cases hq' : q = p
    · rw [hq', upd_same]; simp
    · rw [upd_ne hq']; exact a.go.kp q hq
  · rw [upd_ne (hne b ⟨o, h⟩)]; exact a.rl.sub b o h
  · by_cases hi : i = c
    · subst hi
      rw [hc] at e1; cases e1
      rw [List.getElem?_set_self hcu] at e2; cases e2
      exact ⟨fp, ws, upd_same, r⟩
    · rw [List.getElem?_set_ne (Ne.symm hi)] at e2
      obtain ⟨b1, vs', b2, b3⟩ := a.rl.cel i q ds e1 e2
      have hq : q ≠ p := fun z => by
        subst z
        have hil : i < A.length := (List.getElem?_eq_some_iff.mp e1).1
        have g1 : A[i] = q := Option.some.inj ((List.getElem?_eq_getElem hil).symm.trans e1)
        have g2 : A[c] = q := Option.some.inj ((List.getElem?_eq_getElem hcl).symm.trans hc)
        have nd := List.pairwise_iff_getElem.mp a.rl.nd
        rcases Nat.lt_or_gt_of_ne hi with z | z
        · exact nd i c hil hcl z (g1.trans g2.symm)
        · exact nd c i hcl hil z (g2.trans g1.symm)
      exact ⟨b1, vs', by rw [upd_ne hq]; exact b2, b3⟩
  · obtain ⟨b1, b2, b3⟩ := a.rl.ow q i e
    have hq : q ≠ p := fun z => b2 (by rw [z]; exact pA)
    exact ⟨b1, b2, by rw [upd_ne hq]; exact b3⟩
  · obtain ⟨p', vs', e1, e2, e3, e4⟩ := a.en.own j ds h
    have hp : p' ≠ p := fun z => (a.rl.ow p' j e3).2.1 (by rw [z]; exact pA)
    exact ⟨p', vs', e1, by rw [upd_ne hp]; exact e2, e3, e4⟩
/-- an own list is closed -/
theorem SA.frz (a : SA T B F A Ow σ H env u) {i : Nat} {ds : List D} (hi : env[i]? = some (.own ds)) : ∃ F' Ow', SA T B F' A Ow' σ H (setS env i (.val (.lst ds))) u ∧ Ext F A F' A := by
  obtain ⟨p, vs, e1, e2, e3, e4⟩ := a.en.own i ds hi
  obtain ⟨o1, o2, o3⟩ := a.rl.ow p i e3
  have hil : i < env.length := (List.getElem?_eq_some_iff.mp hi).1
  have ex : Ext F A (upd F p (.lst vs)) A := ⟨fun b o h => by
    have hb : b ≠ p := fun z => by rw [z, o1] at h; cases h
    rw [upd_ne hb]; exact h, fun i q h => h⟩
  refine ⟨upd F p (.lst vs), owDel Ow p, ⟨⟨a.go.ext.trans ex, a.go.fr, a.go.nw, fun q o h => ?_, a.go.kp⟩, ⟨fun b o h => ?_, a.rl.len, a.rl.nd, fun j q ds' h1 h2 => ?_, fun q j e => ?_⟩, ⟨by show _ = (List.set _ _ _).length; rw [List.length_set]; exact a.en.len, fun j d' h => ?_, fun j es h => ?_⟩, fun q j e => ?_⟩, ex⟩
  · by_cases hq : q = p
    · subst hq; exact .inr (a.nw q i e3)
    · rw [upd_ne hq] at h; exact a.go.nf q o h
  · by_cases hb : b = p
    · subst hb; rw [upd_same] at h; cases h; exact e2
    · rw [upd_ne hb] at h; exact a.rl.sub b o h
  · obtain ⟨b1, vs', b2, b3⟩ := a.rl.cel j q ds' h1 h2
    have hq : q ≠ p := fun z => o2 (by rw [← z]; exact List.mem_of_getElem? h1)
    exact ⟨by rw [upd_ne hq]; exact b1, vs', b2, b3.mono ex⟩
  · by_cases hq : q = p
    · subst hq; rw [owDel_same] at e; cases e
    · rw [owDel_ne hq] at e
      obtain ⟨b1, b2, b3⟩ := a.rl.ow q j e
      exact ⟨by rw [upd_ne hq]; exact b1, b2, b3⟩
  · have h : (List.set env i (.val (.lst ds)))[j]? = some (.val d') := h
    by_cases hj : i = j
    · subst hj
      rw [List.getElem?_set_self hil] at h
      cases h
      exact ⟨.ref p, e1, .lst upd_same (e4.mono ex)⟩
    · rw [List.getElem?_set_ne hj] at h
      obtain ⟨v, h1, h2⟩ := a.en.val j d' h
      exact ⟨v, h1, h2.mono ex⟩
  · have h : (List.set env i (.val (.lst ds)))[j]? = some (.own es) := h
    by_cases hj : i = j
    · subst hj
      rw [List.getElem?_set_self hil] at h
      cases h
    · rw [List.getElem?_set_ne hj] at h
      obtain ⟨p', vs', h1, h2, h3, h4⟩ := a.en.own j es h
      have hp : p' ≠ p := fun z => by rw [z, e3] at h3; cases h3; exact hj rfl
      exact ⟨p', vs', h1, h2, by rw [owDel_ne hp]; exact h3, h4.mono ex⟩
  · by_cases hq : q = p
    · subst hq; rw [owDel_same] at e; cases e
    · rw [owDel_ne hq] at e; exact a.nw q j e
end
/-! ### targets of a statement -/
def tGs (T : Sta) (C : Cfg) (P : Phi) (t : Tg) : TG := fun v σ H Q => ∃ B F A Ow env u d, SA T B F A Ow σ H env u ∧ Rep T F A d v ∧ PostG T B F A (denT C P t d env u) Q
def tGss (T : Sta) (C : Cfg) (P : Phi) (ts : Tgs) : TGs := fun v σ H Q => ∃ B F A Ow env u d, SA T B F A Ow σ H env u ∧ Reps T F A d v ∧ PostG T B F A (denTs C P ts d env u) Q
theorem SA.nx {T : Sta} {B : Bs} {F H : Hp} {A : List Addr} {Ow : Addr → Option Nat} {σ : L2.St} {env : Env} {u : U} {Q : L2.St → Hp → Prop} (a : SA T B F A Ow σ H env u) (n : Nx T B F A env u Q) : Q σ H := n F A Ow σ H a (.refl _ _)
section
variable {T : Sta} {C : Cfg} {P : Phi} {X : Cx} {pos : Pos}
theorem snd_g_nm {i : Nat} {x : Str} (hNd : X.N.Nodup) (hN : X.N[i]? = some x) (hx : Loc X.env.scope x) (hf : X.fn x = true ∨ X.env.scope.names.lookup x = some .local) : PG X (.Name x pos) (tGs T C P (.nm i)) := by
  refine (pg_name hNd hN hx hf).weak fun v σ H Q ⟨B, F, A, Ow, env, u, d, a, r, p⟩ => ?_
  exact (a.set r).nx (show Nx T B F A (setS env i (.val d)) u Q from p)
theorem snd_g_nil : PGs X [] (tGss T C P .nil) := by
  refine pgs_nil.weak fun v σ H Q ⟨B, F, A, Ow, env, u, d, a, r, p⟩ => ?_
  cases d with
  | nil => cases r; exact ⟨rfl, a.nx (show Nx T B F A env u Q from p)⟩
  | cons d ds => exact p.elim
theorem snd_g_cons {t : Tg} {ts : Tgs} {e : Expr} {es : List Expr} (h1 : PG X e (tGs T C P t)) (h2 : PGs X es (tGss T C P ts)) (hn : notStar e = true) : PGs X (e :: es) (tGss T C P (.cons t ts)) := by
  refine (pgs_cons h1 h2 (by rw [asg_cons X.env hn]; rfl)).weak fun v σ H Q ⟨B, F, A, Ow, env, u, d, a, r, p⟩ => ?_
  cases d with
  | nil => exact p.elim
  | cons d ds =>
    cases r with
    | cons r rs =>
      have p : PostG T B F A ((denT C P t d env u).bind (fun env1 => denTs C P ts ds env1)) Q := p
      refine ⟨_, _, rfl, B, F, A, Ow, env, u, d, a, r, p.bindG.imp fun σ1 H1 ⟨env1, u1, F1, A1, Ow1, a1, e1, p1⟩ => ?_⟩
      exact ⟨B, F1, A1, Ow1, env1, u1, ds, a1, rs.mono e1, p1⟩
theorem denTs_len (C : Cfg) (P : Phi) : ∀ (ts : Tgs) (ds : List D) (env : Env) (u : U), lenTs ts ≠ ds.length → ∀ env' u', denTs C P ts ds env u ≠ .ok env' u'
  | .nil, [], _, _, h, _, _ => absurd rfl h
  | .nil, _ :: _, env, u, _, env', u' => fun e => by have e : (Res.bad : Res Env) = .ok env' u' := e; cases e
  | .cons _ _, [], env, u, _, env', u' => fun e => by have e : (Res.bad : Res Env) = .ok env' u' := e; cases e
  | .cons t ts, d :: ds, env, u, h, env', u' => fun e => by
    have e : (denT C P t d env u).bind (fun env1 => denTs C P ts ds env1) = .ok env' u' := e
    cases q1 : denT C P t d env u with
    | ok env1 u1 =>
      rw [q1] at e
      exact denTs_len C P ts ds env1 u1 (fun z => h (congrArg (· + 1) z)) env' u' e
    | exc c a u1 => rw [q1] at e; cases e
    | bad => rw [q1] at e; cases e
theorem snd_g_tp (hc : X.calm = true) (hK : X.K = T.K) {ts : Tgs} {es : List Expr} {k : Nat} (h : PGs X es (tGss T C P ts)) (hn : es.all notStar = true) (hl : lenTs ts = es.length) : PG X (.Tuple es k pos) (tGs T C P (.tp ts)) := by
  obtain ⟨a1, a2⟩ := asg_len X.env hn
  refine (pg_tup hc h a1 a2).weak fun v σ H Q ⟨B, F, A, Ow, env, u, d, a, r, p⟩ => ?_
  cases d <;> try exact p.elim
  rename_i ds
  obtain ⟨q, xs, rfl, hq, rs⟩ := rep_tup r
  have p : PostG T B F A (denTs C P ts ds env u) Q := p
  refine ⟨q, xs, rfl, by rw [hK]; exact sqT_mono a.rl.sub hq, ?_, B, F, A, Ow, env, u, ds, a, rs, p⟩
  rw [← rs.length]
  by_cases hll : lenTs ts = ds.length
  · omega
  · cases q1 : denTs C P ts ds env u with
    | ok env1 u1 => exact absurd q1 (denTs_len C P ts ds env u hll env1 u1)
    | exc c a u1 => rw [q1] at p; exact p.elim
    | bad => rw [q1] at p; exact p.elim
theorem snd_g_ix {i : Nat} {x : Str} {ppos : Pos} {e : CE} {e' : Expr} (hN : X.N[i]? = some x) (hv : Vis X.env.scope x) (hd : (x == ("__debug__" : Str)) = false) (hcd : (x == ("__classdict__" : Str)) = false) (he : PE X e' (tE T C P e)) (hp : plainIx e' = true) : PG X (.Subscript (.Name x ppos) e' pos) (tGs T C P (.ix i e)) := by
  refine (pg_sub (pe_var (i := i) hN hv hd hcd) he set_list (by intro v; cases e' <;> first | rfl | cases hp)).weak fun v σ H Q ⟨B, F, A, Ow, env, u, d, a, r, p⟩ => ?_
  have p : PostG T B F A ((denE C P e env u).bind (setD i d env)) Q := p
  have key : ∀ (k : Int) (q : Addr) (xs : List V) (j : Nat), ixN xs.length k = some j → L2.ixN xs.length k = some j := fun k q xs j h => by rw [← ixN_eq]; exact h
  cases hs : env[i]? with
  | none =>
    have e0 : getS env i = .no := by unfold getS; rw [hs]; rfl
    exfalso
    cases q : denE C P e env u with
    | ok k u1 => rw [q] at p; have p : PostG T B F A (setD i d env k u1) Q := p; unfold setD at p; rw [e0] at p; exact p.elim
    | exc c a u1 => rw [q] at p; exact p.elim
    | bad => rw [q] at p; exact p.elim
  | some s =>
    have e0 : getS env i = s := by unfold getS; rw [hs]; rfl
    have hx : ∃ x : V, σ[i]? = some (some x) ∧ (∀ ds : List D, s = .own ds → (∃ (q : Addr) (vs : List V), x = .ref q ∧ H q = some (.lst vs) ∧ Ow q = some i ∧ Reps T F A ds vs)) ∧ (∀ d : D, s = .val d → Rep T F A d x) := by
      cases s with
      | no =>
        exfalso
        cases q : denE C P e env u with
        | ok k u1 => rw [q] at p; have p : PostG T B F A (setD i d env k u1) Q := p; unfold setD at p; rw [e0] at p; exact p.elim
        | exc c a u1 => rw [q] at p; exact p.elim
        | bad => rw [q] at p; exact p.elim
      | val dd =>
        obtain ⟨x, h1, h2⟩ := a.en.val i dd hs
        exact ⟨x, h1, fun ds z => (by cases z), fun d z => (by cases z; exact h2)⟩
      | own ds =>
        obtain ⟨q, vs, h1, h2, h3, h4⟩ := a.en.own i ds hs
        exact ⟨_, h1, fun ds1 z => (by cases z; exact ⟨q, vs, rfl, h2, h3, h4⟩), fun d z => (by cases z)⟩
    obtain ⟨x, hx, ho, hval⟩ := hx
    refine ⟨x, hx, F, A, Ow, env, u, a.at_, (p.bind (R1 := RV T)).imp fun y H1 ⟨k, u1, F1, A1, g1, rl1, r1, p1⟩ => ?_⟩
    have a1 := a.step g1 rl1
    have p1 : PostG T B F1 A1 (setD i d env k u1) Q := p1
    cases s with
    | no => unfold setD at p1; rw [e0] at p1; exact p1.elim
    | own ds =>
      obtain ⟨q, vs, rfl, h2, h3, h4⟩ := ho ds rfl
      obtain ⟨k, rfl⟩ : ∃ j, k = .int j := by cases k <;> first | exact ⟨_, rfl⟩ | (unfold setD at p1; rw [e0] at p1; exact p1.elim)
      obtain rfl := rep_int r1
      have p1 : PostG T B F1 A1 ((match ixN ds.length k with | some j => ret (setS env i (.own (ds.set j d))) | none => stuck : M Env) u1) Q := by unfold setD at p1; rw [e0] at p1; exact p1
      cases hj : ixN ds.length k with
      | none => rw [hj] at p1; exact p1.elim
      | some j =>
        rw [hj] at p1
        have p1 : Nx T B F1 A1 (setS env i (.own (ds.set j d))) u1 Q := p1
        have h2' : H1 q = some (.lst vs) := g1.fr _ _ h2 (a.rl.ow q i h3).2.1
        refine ⟨q, vs, k, j, rfl, rfl, h2', key k q vs j (by rw [← h4.length]; exact hj), ?_⟩
        exact (a1.updOw hs hx h2' h3 ((h4.mono g1.ext).set j (r.mono g1.ext))).nx p1
    | val dd =>
      have rd := hval dd rfl
      obtain ⟨c, rfl⟩ : ∃ j, dd = .cell j := by cases dd <;> first | exact ⟨_, rfl⟩ | (unfold setD at p1; rw [e0] at p1; exact p1.elim)
      obtain ⟨k, rfl⟩ : ∃ j, k = .int j := by cases k <;> first | exact ⟨_, rfl⟩ | (unfold setD at p1; rw [e0] at p1; exact p1.elim)
      obtain rfl := rep_int r1
      have p1 : PostG T B F1 A1 (match u1[c]? with | some ds => (match ixN ds.length k with | some j => .ok env (u1.set c (ds.set j d)) | none => .bad) | none => .bad) Q := by unfold setD at p1; rw [e0] at p1; exact p1
      cases hu : u1[c]? with
      | none => rw [hu] at p1; exact p1.elim
      | some ds =>
        rw [hu] at p1
        have p1 : PostG T B F1 A1 (match ixN ds.length k with | some j => .ok env (u1.set c (ds.set j d)) | none => .bad) Q := p1
        cases hj : ixN ds.length k with
        | none => rw [hj] at p1; exact p1.elim
        | some j =>
          rw [hj] at p1
          have p1 : Nx T B F1 A1 env (u1.set c (ds.set j d)) Q := p1
          have rd1 := rd.mono g1.ext
          cases rd1 with
          | cell hc =>
            rename_i q
            obtain ⟨b1, vs, b2, b3⟩ := rl1.cel c q ds hc hu
            refine ⟨q, vs, k, j, rfl, rfl, b2, key k q vs j (by rw [← b3.length]; exact hj), ?_⟩
            exact (a1.updCel hc b2 (b3.set j (r.mono g1.ext))).nx p1
end
end Lv

end Part_Lev6

section Part_Lev7
set_option maxRecDepth 100000
set_option maxHeartbeats 2000000
/-! Lev7: statements. -/
namespace Lv
open PySem PySem.Spec PyProof.Rows L2

def tS (T : Sta) (C : Cfg) (P : Phi) (s : CS) : TS := fun D σ H => ∃ B F A Ow env u, SA T B F A Ow σ H env u ∧ PostS T B F A (denS C P s env u) D
def tSs (T : Sta) (C : Cfg) (P : Phi) (s : CSs) : TS := fun D σ H => ∃ B F A Ow env u, SA T B F A Ow σ H env u ∧ PostS T B F A (denSs C P s env u) D
theorem PostS.post {γ δ : Type} {T : Sta} {B : Bs} {F H : Hp} {A : List Addr} {Ow : Addr → Option Nat} {r : Res γ} {f : γ → M Out} {D : Ends} {R1 : Hp → List Addr → Hp → γ → δ → Prop} {Q : δ → Hp → Prop} (p : PostS T B F A (r.bind f) D)
    (h : ∀ a u1 F1 A1 x H1, Go F A H F1 A1 H1 → Rl T F1 A1 Ow H1 u1 → R1 F1 A1 H1 a x → PostS T B F1 A1 (f a u1) D → Q x H1) : Post T Ow F A H r R1 Q :=
  p.bind.imp fun x H1 ⟨a, u1, F1, A1, g, rl, r, p⟩ => h a u1 F1 A1 x H1 g rl r p
section
variable {T : Sta} {C : Cfg} {P : Phi} {X : Cx} {pos : Pos}
/-! ### one after another -/
theorem snd_ss_nil : PSs X [] (tSs T C P .nil) := pss_nil.weak fun D σ H ⟨B, F, A, Ow, env, u, a, p⟩ => a.nx (show Nx T B F A env u D.nx from p)
theorem snd_ss_cons {s : CS} {ss : CSs} {st : Stmt} {sts : List Stmt} (h1 : PS X st (tS T C P s)) (h2 : PSs X sts (tSs T C P ss)) : PSs X (st :: sts) (tSs T C P (.cons s ss)) := by
  refine (pss_cons h1 h2).weak fun D σ H ⟨B, F, A, Ow, env, u, a, p⟩ => ?_
  have p : PostS T B F A ((denS C P s env u).bind (thenO (denSs C P ss))) D := p
  refine ⟨B, F, A, Ow, env, u, a, ?_⟩
  revert p
  rcases denS C P s env u with ⟨o, u1⟩ | ⟨c, x, u1⟩ | _
  · cases o with
    | nxt env1 => exact fun p F1 A1 Ow1 σ1 H1 a1 e => ⟨B, F1, A1, Ow1, env1, u1, a1, PostS.mono (show PostS T B F A (denSs C P ss env1 u1) D from p) e⟩
    | ret d => exact fun p => p
    | brk env1 => exact fun p => p
    | cnt env1 => exact fun p => p
  · exact fun p => p
  · exact fun p => p
/-- an own list is closed: no statement of the program's -/
theorem snd_ss_frz {i : Nat} {ss : CSs} {sts : List Stmt} (h : PSs X sts (tSs T C P ss)) : PSs X sts (tSs T C P (.cons (.frz i) ss)) := by
  refine h.weak fun D σ H ⟨B, F, A, Ow, env, u, a, p⟩ => ?_
  have p : PostS T B F A (denSs C P ss (frzD env i) u) D := p
  cases hs : env[i]? with
  | none =>
    have e0 : frzD env i = env := by unfold frzD getS; rw [hs]; rfl
    rw [e0] at p; exact ⟨B, F, A, Ow, env, u, a, p⟩
  | some s =>
    cases s with
    | own ds =>
      have e0 : frzD env i = setS env i (.val (.lst ds)) := by unfold frzD getS; rw [hs]; rfl
      rw [e0] at p
      obtain ⟨F1, Ow1, a1, e⟩ := a.frz hs
      exact ⟨B, F1, A, Ow1, _, u, a1, p.mono e⟩
    | no =>
      have e0 : frzD env i = env := by unfold frzD getS; rw [hs]; rfl
      rw [e0] at p; exact ⟨B, F, A, Ow, env, u, a, p⟩
    | val d =>
      have e0 : frzD env i = env := by unfold frzD getS; rw [hs]; rfl
      rw [e0] at p; exact ⟨B, F, A, Ow, env, u, a, p⟩
/-! ### plain statements -/
theorem snd_s_pass : PS X (.Pass pos) (tS T C P .pass) := ps_pass.weak fun D σ H ⟨B, F, A, Ow, env, u, a, p⟩ => a.nx (show Nx T B F A env u D.nx from p)
theorem snd_s_doc {x j p' pos} : PS X (.Expr (.Constant (.str x) j p') pos) (tS T C P .pass) := ps_doc.weak fun D σ H ⟨B, F, A, Ow, env, u, a, p⟩ => a.nx (show Nx T B F A env u D.nx from p)
theorem snd_s_brk : PS X (.Break pos) (tS T C P .brk) := ps_break.weak fun D σ H ⟨B, F, A, Ow, env, u, a, p⟩ => a.nx (show Nx T B F A env u D.bk from p)
theorem snd_s_cnt : PS X (.Continue pos) (tS T C P .cnt) := ps_continue.weak fun D σ H ⟨B, F, A, Ow, env, u, a, p⟩ => a.nx (show Nx T B F A env u D.ct from p)
theorem snd_s_raise {st : Stmt} {c : Nat} : PS X st (tS T C P (.raise c)) := ps_never.weak fun D σ H ⟨B, F, A, Ow, env, u, a, p⟩ => p
theorem snd_s_ret {e : CE} {e' : Expr} (he : PE X e' (tE T C P e)) : PS X (.Return (some e') pos) (tS T C P (.ret e)) := by
  refine (ps_ret he).weak fun D σ H ⟨B, F, A, Ow, env, u, a, p⟩ => ?_
  have p : PostS T B F A ((denE C P e env u).bind fun d => ret (.ret d)) D := p
  refine ⟨F, A, Ow, env, u, a.at_, p.post fun d u1 F1 A1 x H1 g rl r p => ?_⟩
  exact p x F1 A1 H1 (a.go.trans g) rl.noOwn r
theorem snd_s_retN : PS X (.Return none pos) (tS T C P .retN) := by
  refine ps_retN.weak fun D σ H ⟨B, F, A, Ow, env, u, a, p⟩ => ?_
  have p : PostS T B F A (.ok (.ret .non) u) D := p
  exact p .non F A H a.go a.rl.noOwn .non
theorem snd_s_expr {e : CE} {e' : Expr} (he : PE X e' (tE T C P e)) (hs : swapsWith e' none pos.line X.env = pure false) : PS X (.Expr e' pos) (tS T C P (.expr e)) := by
  refine (ps_expr he hs).weak fun D σ H ⟨B, F, A, Ow, env, u, a, p⟩ => ?_
  have p : PostS T B F A ((denE C P e env u).bind fun d => ret (.nxt env)) D := p
  refine ⟨F, A, Ow, env, u, a.at_, p.post (R1 := RV T) fun d u1 F1 A1 x H1 g rl r p => ?_⟩
  exact (a.step g rl).nx (show Nx T B F1 A1 env u1 D.nx from p)
theorem snd_s_asg {t : Tg} {e : CE} {tg e' : Expr} (he : PE X e' (tE T C P e)) (hg : PG X tg (tGs T C P t)) (hs : swapsWithSole [tg] e' pos.line X.env = pure false) (hw : swappedStores [tg] e' X.env = pure none) (h1 : notStar tg = true) : PS X (.Assign [tg] e' pos) (tS T C P (.asg t e)) := by
  refine (ps_asg he hg hs hw (by rw [asg_cons X.env h1]; rfl)).weak fun D σ H ⟨B, F, A, Ow, env, u, a, p⟩ => ?_
  have p : PostS T B F A ((denE C P e env u).bind fun d => M.bind (denT C P t d env) fun e => ret (.nxt e)) D := p
  refine ⟨F, A, Ow, env, u, a.at_, p.post (R1 := RV T) fun d u1 F1 A1 x H1 g rl r p => ?_⟩
  have p : PostS T B F1 A1 ((denT C P t d env u1).bind fun e => ret (.nxt e)) D := p
  refine ⟨B, F1, A1, Ow, env, u1, d, a.step g rl, r, p.bindG.imp fun σ2 H2 ⟨env2, u2, F2, A2, Ow2, a2, e2, p2⟩ => ?_⟩
  exact a2.nx (show Nx T B F2 A2 env2 u2 D.nx from p2)
/-- a new list in a name of its own -/
theorem own_tr {i : Nat} {f : FE} {D : Ends} {σ : L2.St} {H : Hp} (h : tS T C P (.own i f) D σ H) : tAsg (tF T C P f) (gName i) D σ H := by
  obtain ⟨B, F, A, Ow, env, u, a, p⟩ := h
  have p : PostS T B F A ((denF C P f env u).bind fun ds => ret (.nxt (setS env i (.own ds)))) D := p
  refine ⟨F, A, Ow, env, u, a.at_, p.post fun ds u1 F1 A1 x H1 g rl r p => ?_⟩
  obtain ⟨q, vs, rfl, h1, h2, h3, h4, h0, h5⟩ := r
  have bq : B.H q = none := by
    cases z : B.H q with
    | none => rfl
    | some o => exact absurd h0 (a.go.kp q (by rw [z]; simp))
  exact (((a.step g rl).addOw (i := i) h1 h2 h3 h4 bq).setOwn h1 owAdd_same h5).nx (show Nx T B F1 A1 (setS env i (.own ds)) u1 D.nx from p)
/-- a new list in a name, closed at once -/
theorem asgF_tr {i : Nat} {f : FE} {D : Ends} {σ : L2.St} {H : Hp} (h : tS T C P (.asg (.nm i) (.fr f)) D σ H) : tAsg (tF T C P f) (gName i) D σ H := by
  obtain ⟨B, F, A, Ow, env, u, a, p⟩ := h
  refine fr_tr (T := T) (C := C) (P := P) ?_
  have p : PostS T B F A ((denE C P (.fr f) env u).bind fun d => ret (.nxt (setS env i (.val d)))) D := p
  refine ⟨F, A, Ow, env, u, a.at_, p.post (R1 := RV T) fun d u1 F1 A1 x H1 g rl r p => ?_⟩
  exact ((a.step g rl).set r).nx (show Nx T B F1 A1 (setS env i (.val d)) u1 D.nx from p)
theorem snd_s_own {i : Nat} {x : Str} {f : FE} {e' : Expr} {pos' : Pos} (hNd : X.N.Nodup) (hN : X.N[i]? = some x) (hx : Loc X.env.scope x) (hf : X.fn x = true ∨ X.env.scope.names.lookup x = some .local) (he : PE X e' (tF T C P f)) (hs : swapsWith e' (some (.Name x pos')) pos.line X.env = pure false) : PS X (.Assign [.Name x pos'] e' pos) (tS T C P (.own i f)) :=
  (ps_set hNd hN hx he hs hf).weak fun D σ H h => own_tr h
theorem snd_s_asgF {i : Nat} {x : Str} {f : FE} {e' : Expr} {pos' : Pos} (hNd : X.N.Nodup) (hN : X.N[i]? = some x) (hx : Loc X.env.scope x) (hf : X.fn x = true ∨ X.env.scope.names.lookup x = some .local) (he : PE X e' (tF T C P f)) (hs : swapsWith e' (some (.Name x pos')) pos.line X.env = pure false) : PS X (.Assign [.Name x pos'] e' pos) (tS T C P (.asg (.nm i) (.fr f))) :=
  (ps_set hNd hN hx he hs hf).weak fun D σ H h => asgF_tr h
/-- name = [..] on one line -/
theorem set_lc {i : Nat} {y : Str} {py : Pos} {elt tg iter : Expr} {ifs : List Expr} {scope : Scope} {own : List (Str × Nat)} {pos spos : Pos} {e : CE} {t : Tg} {it : It} {cs : CEs} (hc : X.calm = true) (hN : X.N.Nodup) (hy : X.N[i]? = some y) (hyl : X.env.scope.names.lookup y = some .local)
    (hsw : swapsWith (.ListComp elt [⟨tg, iter, ifs, 0⟩] scope pos) (some (.Name y py)) spos.line X.env = pure true) (hi : PI X tg iter (tI T C P it)) (ok : BlkOk X.N X.env.scope scope own)
    (hg : ∀ (s : Shared) (H : Hp) (Ca : Addr) (cl : List (Str × Addr)) (fp : List Addr), PG (X.blk s H scope (compEnvC scope cl Ca X.env) fp) tg (tGp T C P t)) (ht : ∀ (s : Shared) (H : Hp) (Ca : Addr) (cl : List (Str × Addr)) (fp : List Addr), PTs (X.blk s H scope (compEnvC scope cl Ca X.env) fp) ifs (tCs T C P cs))
    (he : ∀ (s : Shared) (H : Hp) (Ca : Addr) (cl : List (Str × Addr)) (fp : List Addr), PE (X.blk s H scope (compEnvC scope cl Ca X.env) fp) elt (tE T C P e)) (hs : notSet iter = true) (hp : pureT t = true) (hv : ∀ i ∈ slotsT t, i ∈ own.map (·.2)) :
    PS X (.Assign [.Name y py] (.ListComp elt [⟨tg, iter, ifs, 0⟩] scope pos) spos) (tAsg (tF T C P (.lc e (own.map (·.2)) t it cs)) (gName i)) :=
  (ps_setLc hc hN hy hyl hsw hi ok hg ht he (fold_no hs)).weak fun D σ H h => lc_tr hp hv h
/-! ### several at once -/
def slotsP : Prs → List Nat
  | .nil => []
  | .val (.nm i) _ r => i :: slotsP r
  | .val _ _ r => slotsP r
  | .own i _ r => i :: slotsP r
def setMany (σ : L2.St) : List Nat → List V → L2.St
  | i :: r, v :: vs => setMany (σ.set i (some v)) r vs
  | _, _ => σ
def tPs (T : Sta) (C : Cfg) (P : Phi) (ps : Prs) : TA := fun σ H Q => ∃ B F A Ow env env1 u σ1, SA T B F A Ow σ H env u ∧ En T F A Ow σ1 H env1 ∧
  PostG T B F A (denP C P ps env env1 u) (fun σ' H' => ∀ vs : List V, vs.length = (slotsP ps).length → σ' = setMany σ1 (slotsP ps) vs → Q vs H')
theorem snd_p_nil : PA X [] (tPs T C P .nil) := by
  refine pa_nil.weak fun σ H Q ⟨B, F, A, Ow, env, env1, u, σ1, a, e1, p⟩ => ?_
  have p : Nx T B F A env1 u (fun σ' H' => ∀ vs : List V, vs.length = 0 → σ' = setMany σ1 [] vs → Q vs H') := p
  exact p F A Ow σ1 H ⟨a.go, a.rl, e1, a.nw⟩ (.refl _ _) [] rfl rfl
theorem snd_p_val {i : Nat} {e : CE} {r : Prs} {e' : Expr} {es : List Expr} (he : PE X e' (tE T C P e)) (hs : PA X es (tPs T C P r)) (hn : notStar e' = true) : PA X (e' :: es) (tPs T C P (.val (.nm i) e r)) := by
  refine (pa_cons he hs (star_cons X.env hn)).weak fun σ H Q ⟨B, F, A, Ow, env, env1, u, σ1, a, e1, p⟩ => ?_
  have p : PostG T B F A ((denE C P e env u).bind fun d => denP C P r env (setS env1 i (.val d))) _ := p
  refine ⟨F, A, Ow, env, u, a.at_, (p.bind (R1 := RV T)).imp fun x H1 ⟨d, u1, F1, A1, g1, rl1, r1, p1⟩ => ?_⟩
  refine ⟨B, F1, A1, Ow, env, setS env1 i (.val d), u1, σ1.set i (some x), a.step g1 rl1, (e1.go a.rl g1).set r1, p1.imp fun σ' H' q vs hl hσ => ?_⟩
  exact q (x :: vs) (congrArg (· + 1) hl) hσ
theorem snd_p_own {i : Nat} {f : FE} {r : Prs} {e' : Expr} {es : List Expr} (he : PE X e' (tF T C P f)) (hs : PA X es (tPs T C P r)) (hn : notStar e' = true) : PA X (e' :: es) (tPs T C P (.own i f r)) := by
  refine (pa_cons he hs (star_cons X.env hn)).weak fun σ H Q ⟨B, F, A, Ow, env, env1, u, σ1, a, e1, p⟩ => ?_
  have p : PostG T B F A ((denF C P f env u).bind fun ds => denP C P r env (setS env1 i (.own ds))) _ := p
  refine ⟨F, A, Ow, env, u, a.at_, (p.bind (R1 := FrRep T Ow H)).imp fun x H1 ⟨ds, u1, F1, A1, g1, rl1, r1, p1⟩ => ?_⟩
  obtain ⟨q, vs, rfl, h1, h2, h3, h4, h0, h5⟩ := r1
  have bq : B.H q = none := by
    cases z : B.H q with
    | none => rfl
    | some o => exact absurd h0 (a.go.kp q (by rw [z]; simp))
  refine ⟨B, F1, A1, owAdd Ow q i, env, setS env1 i (.own ds), u1, σ1.set i (some (.ref q)), (a.step g1 rl1).addOw h1 h2 h3 h4 bq, ((e1.go a.rl g1).addOw h4).setOwn h1 owAdd_same h5, p1.imp fun σ' H' q' vs hl hσ => ?_⟩
  exact q' (.ref q :: vs) (congrArg (· + 1) hl) hσ
theorem par_tr {ps : Prs} {D : Ends} {σ : L2.St} {H : Hp} {Q : List V → Hp → Prop} (h : tS T C P (.par ps) D σ H) (hq : ∀ vs H', vs.length = (slotsP ps).length → D.nx (setMany σ (slotsP ps) vs) H' → Q vs H') : tPs T C P ps σ H Q := by
  obtain ⟨B, F, A, Ow, env, u, a, p⟩ := h
  have p : PostS T B F A ((denP C P ps env env u).bind fun e => ret (.nxt e)) D := p
  refine ⟨B, F, A, Ow, env, env, u, σ, a, a.en, p.bindG.imp fun σ2 H2 ⟨env2, u2, F2, A2, Ow2, a2, e2, p2⟩ vs hl hσ => ?_⟩
  refine hq vs H2 hl ?_
  rw [← hσ]
  exact a2.nx (show Nx T B F2 A2 env2 u2 D.nx from p2)
theorem snd_s_par2 {i j : Nat} {ps : Prs} {x y : Str} {a b : Expr} {px py pt : Pos} {kt k2 : Nat} {pt2 : Pos} (hc : X.calm = true) (hN : X.N.Nodup) (hi : X.N[i]? = some x) (hj : X.N[j]? = some y) (hij : i ≠ j)
    (hx : X.env.scope.names.lookup x = some .local) (hy : X.env.scope.names.lookup y = some .local) (ha : PA X [a, b] (tPs T C P ps)) (hsl : slotsP ps = [i, j])
    (hw : swappedStores [.Tuple [.Name x px, .Name y py] kt pt] (.Tuple [a, b] k2 pt2) X.env = pure (some [x, y])) :
    PS X (.Assign [.Tuple [.Name x px, .Name y py] kt pt] (.Tuple [a, b] k2 pt2) pos) (tS T C P (.par ps)) := by
  refine (ps_par hc hN hi hj hij hx hy ha hw).weak fun D σ H h => par_tr h fun vs H' hl hq => ?_
  rw [hsl] at hl hq
  obtain ⟨v, w, rfl⟩ : ∃ v w, vs = [v, w] := by
    match vs, hl with
    | [v, w], _ => exact ⟨v, w, rfl⟩
  exact ⟨v, w, rfl, hq⟩
theorem snd_s_par3 {i j l : Nat} {ps : Prs} {x y z : Str} {a b c : Expr} {px py pz pt : Pos} {kt k2 : Nat} {pt2 : Pos} (hc : X.calm = true) (hN : X.N.Nodup) (hi : X.N[i]? = some x) (hj : X.N[j]? = some y) (hl' : X.N[l]? = some z) (hij : i ≠ j) (hil : i ≠ l) (hjl : j ≠ l)
    (hx : X.env.scope.names.lookup x = some .local) (hy : X.env.scope.names.lookup y = some .local) (hz : X.env.scope.names.lookup z = some .local) (ha : PA X [a, b, c] (tPs T C P ps)) (hsl : slotsP ps = [i, j, l])
    (hw : swappedStores [.Tuple [.Name x px, .Name y py, .Name z pz] kt pt] (.Tuple [a, b, c] k2 pt2) X.env = pure (some [x, y, z])) :
    PS X (.Assign [.Tuple [.Name x px, .Name y py, .Name z pz] kt pt] (.Tuple [a, b, c] k2 pt2) pos) (tS T C P (.par ps)) := by
  refine (ps_par3 hc hN hi hj hl' hij hil hjl hx hy hz ha hw).weak fun D σ H h => par_tr h fun vs H' hl hq => ?_
  rw [hsl] at hl hq
  obtain ⟨u, v, w, rfl⟩ : ∃ u v w, vs = [u, v, w] := by
    match vs, hl with
    | [u, v, w], _ => exact ⟨u, v, w, rfl⟩
  exact ⟨u, v, w, rfl, hq⟩
/-! ### if, for, while -/
theorem snd_s_if {c : CE} {a b : CSs} {c' : Expr} {a' b' : List Stmt} (hc : PT X c' (tT T C P c)) (ha : PSs X a' (tSs T C P a)) (hb : PSs X b' (tSs T C P b)) : PS X (.If c' a' b' pos) (tS T C P (.ifs c a b)) := by
  refine (ps_if hc ha hb).weak fun D σ H ⟨B, F, A, Ow, env, u, st, p⟩ => ?_
  have p : PostS T B F A ((denE C P c env u).bind fun d => M.bind (asBl d) fun k => if k = true then denSs C P a env else denSs C P b env) D := p
  rw [← bind_assoc] at p
  refine ⟨F, A, Ow, env, u, st.at_, PostS.post (r := (denE C P c env u).bind asBl) p fun k u1 F1 A1 x H1 g rl r p => ?_⟩
  have r : k = x := r
  subst r
  cases k with
  | true => exact ⟨B, F1, A1, Ow, env, u1, st.step g rl, p⟩
  | false => exact ⟨B, F1, A1, Ow, env, u1, st.step g rl, p⟩
theorem snd_s_for {t : Tg} {it : It} {b : CSs} {tg iter : Expr} {body : List Stmt} (hp : PassesOwn (model X.prog X.w) X.A X.env X.xe) (hc : X.calm = true) (hi : PI X tg iter (tI T C P it)) (hnb : noBor it = true) (hg : PG X tg (tGp T C P t)) (hpt : pureT t = true) (hb : PSs X body (tSs T C P b)) (hs : notSet iter = true) :
    PS X (.For tg iter body [] pos) (tS T C P (.for_ t it b)) := by
  refine (ps_for hp hc hi hg hb (fold_no hs)).weak fun D σ H ⟨B, F, A, Ow, env, u, st, p⟩ => ?_
  have p : PostS T B F A ((denI C P it env u).bind fun items => forRun (fun d e => M.bind (denT C P t d e) fun e1 => denSs C P b e1) items env) D := p
  refine ⟨F, A, Ow, env, u, st.at_, ?_⟩
  revert p
  cases hd : denI C P it env u with
  | exc c a u1 => exact fun p => p
  | bad => exact fun p => p
  | ok items u1 =>
    intro p J F' A' H' G g rl wk gH hG1 hG2 hG3
    have p : PostS T B F A (forRun (fun d e => M.bind (denT C P t d e) fun e1 => denSs C P b e1) items env u1) D := p
    have p := p.mono g.ext
    obtain ⟨Y, walk, hY⟩ := wk
    refine for_it walk (fun i σ2 H2 => ∃ F2 A2 Ow2 env2 u2, SA T B F2 A2 Ow2 σ2 H2 env2 u2 ∧ Ext F' A' F2 A2 ∧ PostS T B F' A' (forRun (fun d e => M.bind (denT C P t d e) fun e1 => denSs C P b e1) (items.drop i) env2 u2) D) ?_ ?_ ?_ ?_
    · exact ⟨F', A', Ow, env, u1, st.step g rl, .refl _ _, p⟩
    · intro i σ2 H2 _ ⟨F2, A2, Ow2, env2, u2, s2, e2, p2⟩
      exact hG2 H2 (fun b o h => s2.rl.sub b o (e2.f b o h)) hnb
    · intro i x σ2 H2 H3 hi ⟨F2, A2, Ow2, env2, u2, s2, e2, p2⟩ y
      obtain ⟨d, F3, e1, rl3, g3, r3⟩ := hY i Ow2 H2 H3 x F2 A2 u2 hi e2 s2.rl y
      have ed : items.drop i = d :: items.drop (i + 1) := by
        have hi' := List.getElem?_eq_some_iff.mp e1
        rw [List.drop_eq_getElem_cons hi'.1, hi'.2]
      rw [ed] at p2
      have s3 := s2.step g3 rl3
      have p2 : PostS T B F' A' (((denT C P t d env2 u2).bind fun e1 => denSs C P b e1).bind (forK (forRun (fun d e => M.bind (denT C P t d e) fun e1 => denSs C P b e1) (items.drop (i + 1))))) D := p2
      refine ⟨F3, A2, Ow2, env2, u2, d, s3.at_, r3, ?_⟩
      cases hT : denT C P t d env2 u2 with
      | exc c a u1 => rw [hT] at p2; exact p2.elim
      | bad => rw [hT] at p2; exact p2.elim
      | ok env3 u3 =>
        obtain rfl := pureT_ok C P t hpt _ _ _ _ _ hT
        rw [hT] at p2
        refine ⟨env3, rfl, fun σ3 en3 _ => ⟨B, F3, A2, Ow2, env3, u3, ⟨s3.go, s3.rl, en3, s3.nw⟩, ?_⟩⟩
        have p2 : PostS T B F' A' ((denSs C P b env3 u3).bind (forK (forRun (fun d e => M.bind (denT C P t d e) fun e1 => denSs C P b e1) (items.drop (i + 1))))) D := p2
        have ex3 : Ext F' A' F3 A2 := e2.trans g3.ext
        rcases hB : denSs C P b env3 u3 with ⟨o, u4⟩ | ⟨c, a, u4⟩ | _
        · rw [hB] at p2
          cases o with
          | nxt env4 => exact fun F4 A4 Ow4 σ4 H4 s4 e4 => ⟨F4, A4, Ow4, env4, u4, s4, ex3.trans e4, p2⟩
          | cnt env4 => exact fun F4 A4 Ow4 σ4 H4 s4 e4 => ⟨F4, A4, Ow4, env4, u4, s4, ex3.trans e4, p2⟩
          | brk env4 => exact Nx.mono (show Nx T B F' A' env4 u4 D.nx from p2) ex3
          | ret d => exact p2
        · rw [hB] at p2; exact p2.elim
        · rw [hB] at p2; exact p2.elim
    · intro σ2 H2 ⟨F2, A2, Ow2, env2, u2, s2, e2, p2⟩
      rw [List.drop_length] at p2
      exact (show Nx T B F' A' env2 u2 D.nx from p2) F2 A2 Ow2 σ2 H2 s2 e2
theorem snd_s_while {c : CE} {b : CSs} {c' : Expr} {body : List Stmt} (hp : PassesOwn (model X.prog X.w) X.A X.env X.xe) (hc : PT X c' (tT T C P c)) (hb : PSs X body (tSs T C P b)) : PS X (.While c' body [] pos) (tS T C P (.whl c b)) := by
  refine (ps_while hp hc hb).weak fun D σ H ⟨B, F, A, Ow, env, u, st, p⟩ => ?_
  let step : Env → M (Option Out) := fun e => M.bind (denE C P c e) fun d => M.bind (asBl d) fun k => if k = true then M.bind (denSs C P b e) fun o => ret (some o) else ret none
  have p : PostS T B F A (whileR step env u) D := p
  have hn : ∃ n r, whileN step n env u = some r ∧ PostS T B F A r D := by
    unfold whileR at p
    by_cases h : ∃ n r, whileN step n env u = some r
    · rw [dif_pos h] at p
      exact ⟨_, _, h.choose_spec.choose_spec, p⟩
    · rw [dif_neg h] at p; exact p.elim
  obtain ⟨n, r, hn, p⟩ := hn
  refine ⟨fun m σ H => ∃ F2 A2 Ow2 env2 u2 r, SA T B F2 A2 Ow2 σ H env2 u2 ∧ whileN step m env2 u2 = some r ∧ PostS T B F2 A2 r D, ⟨n, F, A, Ow, env, u, r, st, hn, p⟩, ?_⟩
  intro m σ2 H2 ⟨F2, A2, Ow2, env2, u2, r, s2, hm, p2⟩
  cases m with
  | zero => cases hm
  | succ m =>
    refine ⟨F2, A2, Ow2, env2, u2, s2.at_, ?_⟩
    have es : step env2 u2 = ((denE C P c env2 u2).bind asBl).bind fun k => if k = true then M.bind (denSs C P b env2) fun o => ret (some o) else ret none := by rw [bind_assoc]; rfl
    unfold whileN at hm
    rw [es] at hm
    have key : ∀ k u1, (denE C P c env2 u2).bind asBl = .ok k u1 → ∀ F3 A3 H3, Go F2 A2 H2 F3 A3 H3 → Rl T F3 A3 Ow2 H3 u1 →
        (if k = true then ∃ N : L2.St → Hp → Prop, (∀ σ' H', N σ' H' → ∃ m', m' < m + 1 ∧ ∃ F2 A2 Ow2 env2 u2 r, SA T B F2 A2 Ow2 σ' H' env2 u2 ∧ whileN step m' env2 u2 = some r ∧ PostS T B F2 A2 r D) ∧ tSs T C P b { D with nx := N, ct := N, bk := D.nx } σ2 H3 else D.nx σ2 H3) := by
      intro k u1 hk F3 A3 H3 g3 rl3
      rw [hk] at hm
      have s3 := s2.step g3 rl3
      cases k with
      | false =>
        rw [if_neg Bool.false_ne_true]
        have hm : some (Res.ok (Out.nxt env2) u1) = some r := hm
        cases hm
        exact (show Nx T B F2 A2 env2 u1 D.nx from p2) F3 A3 Ow2 σ2 H3 s3 g3.ext
      | true =>
        rw [if_pos rfl]
        refine ⟨fun σ' H' => ∃ m', m' < m + 1 ∧ ∃ F2 A2 Ow2 env2 u2 r, SA T B F2 A2 Ow2 σ' H' env2 u2 ∧ whileN step m' env2 u2 = some r ∧ PostS T B F2 A2 r D, fun _ _ h => h, B, F3, A3, Ow2, env2, u1, s3, ?_⟩
        rcases hB : denSs C P b env2 u1 with ⟨o, u4⟩ | ⟨c, a, u4⟩ | _
        · cases o with
          | nxt env4 =>
            have hm : whileN step m env4 u4 = some r := by
              have e : (Res.ok true u1).bind (fun k => if k = true then M.bind (denSs C P b env2) fun o => ret (some o) else ret none) = .ok (some (.nxt env4)) u4 := by
                show (denSs C P b env2 u1).bind (fun o => ret (some o)) = _
                rw [hB]; rfl
              rw [e] at hm; exact hm
            exact fun F4 A4 Ow4 σ4 H4 s4 e4 => ⟨m, Nat.lt_succ_self m, F4, A4, Ow4, env4, u4, r, s4, hm, p2.mono (g3.ext.trans e4)⟩
          | cnt env4 =>
            have hm : whileN step m env4 u4 = some r := by
              have e : (Res.ok true u1).bind (fun k => if k = true then M.bind (denSs C P b env2) fun o => ret (some o) else ret none) = .ok (some (.cnt env4)) u4 := by
                show (denSs C P b env2 u1).bind (fun o => ret (some o)) = _
                rw [hB]; rfl
              rw [e] at hm; exact hm
            exact fun F4 A4 Ow4 σ4 H4 s4 e4 => ⟨m, Nat.lt_succ_self m, F4, A4, Ow4, env4, u4, r, s4, hm, p2.mono (g3.ext.trans e4)⟩
          | brk env4 =>
            have hm : some (Res.ok (Out.nxt env4) u4) = some r := by
              have e : (Res.ok true u1).bind (fun k => if k = true then M.bind (denSs C P b env2) fun o => ret (some o) else ret none) = .ok (some (.brk env4)) u4 := by
                show (denSs C P b env2 u1).bind (fun o => ret (some o)) = _
                rw [hB]; rfl
              rw [e] at hm; exact hm
            cases hm
            exact Nx.mono (show Nx T B F2 A2 env4 u4 D.nx from p2) g3.ext
          | ret d =>
            have hm : some (Res.ok (Out.ret d) u4) = some r := by
              have e : (Res.ok true u1).bind (fun k => if k = true then M.bind (denSs C P b env2) fun o => ret (some o) else ret none) = .ok (some (.ret d)) u4 := by
                show (denSs C P b env2 u1).bind (fun o => ret (some o)) = _
                rw [hB]; rfl
              rw [e] at hm; exact hm
            cases hm
            exact p2
        · exfalso
          have e : (Res.ok true u1).bind (fun k => if k = true then M.bind (denSs C P b env2) fun o => ret (some o) else ret none) = .exc c a u4 := by
            show (denSs C P b env2 u1).bind (fun o => ret (some o)) = _
            rw [hB]; rfl
          rw [e] at hm
          have hm : some (Res.exc c a u4) = some r := hm
          cases hm
          exact p2
        · exfalso
          have e : (Res.ok true u1).bind (fun k => if k = true then M.bind (denSs C P b env2) fun o => ret (some o) else ret none) = .bad := by
            show (denSs C P b env2 u1).bind (fun o => ret (some o)) = _
            rw [hB]; rfl
          rw [e] at hm
          have hm : some (Res.bad) = some r := hm
          cases hm
          exact p2
    cases hk : (denE C P c env2 u2).bind asBl with
    | ok k u1 =>
      show Post T Ow2 F2 A2 H2 ((denE C P c env2 u2).bind asBl) REq _
      rw [hk]
      intro b' F3 A3 H3 g3 rl3 e3
      have e3 : k = b' := e3
      subst e3
      exact key k u1 hk F3 A3 H3 g3 rl3
    | exc c1 a1 u1 =>
      rw [hk] at hm
      have hm : some (Res.exc c1 a1 u1) = some r := hm
      cases hm
      exact p2.elim
    | bad =>
      rw [hk] at hm
      have hm : some (Res.bad) = some r := hm
      cases hm
      exact p2.elim
/-! ### append, extend, insert -/
theorem own_get {F H : Hp} {A : List Addr} {Ow : Addr → Option Nat} {σ : L2.St} {env : Env} {i : Nat} {ds : List D} (e : En T F A Ow σ H env) (h : getS env i = .own ds) : env[i]? = some (.own ds) ∧ ∃ (p : Addr) (vs : List V), σ[i]? = some (some (.ref p)) ∧ H p = some (.lst vs) ∧ Ow p = some i ∧ Reps T F A ds vs := by
  have h' : env[i]? = some (.own ds) := by
    unfold getS at h
    cases q : env[i]? with
    | none => rw [q] at h; cases h
    | some s => rw [q] at h; exact congrArg some h
  exact ⟨h', e.own i ds h'⟩
theorem few_ok {e : Expr} {es : List Expr} {cpos : Pos} (hn : (e :: es).all notStar = true) (hl : es.length ≤ 1) : ((backTo cpos (starEach (e :: es) X.env)).all (fun x => !x.1) && (backToKw cpos (keywordEach [] X.env)).all (fun x => x.1.isSome)
      && decide ((e :: es).length + ([] : List Keyword).length + (if ([] : List Keyword).isEmpty then 0 else 1) < 30)) = true := by
  rw [List.all_cons, Bool.and_eq_true] at hn
  rw [star_cons X.env hn.1]
  match es, hl, hn with
  | [], _, _ => rfl
  | [f], _, hn =>
    have h2 := hn.2
    rw [List.all_cons, Bool.and_eq_true] at h2
    rw [star_cons X.env h2.1]
    rfl
theorem snd_s_app {i : Nat} {x : Str} {e : CE} {e' : Expr} {p0 apos cpos : Pos} (hN : X.N[i]? = some x) (hv : Vis X.env.scope x) (hd : (x == ("__debug__" : Str)) = false) (hcd : (x == ("__classdict__" : Str)) = false) (he : PE X e' (tE T C P e)) (hn : notStar e' = true) (hline : (apos.endLine == cpos.line) = true) :
    PS X (.Expr (.Call (.Attribute (.Name x p0) "append" apos) [e'] [] cpos) pos) (tS T C P (.app i e)) := by
  refine (ps_expr (pe_bm PySem.F.plainAttrs_list PySem.F.slot_list_append PySem.F.type_list_append mt_append (pe_var (i := i) hN hv hd hcd) (pa_cons he pa_nil (star_cons X.env hn)) rfl (few_ok (by simp [hn]) (by simp)) hline (star_cons X.env hn) rfl) rfl).weak fun D σ H ⟨B, F, A, Ow, env, u, a, p⟩ => ?_
  have p : PostS T B F A ((denE C P e env u).bind (appD i env)) D := p
  have hown : ∃ ds, getS env i = .own ds := by
    cases q : denE C P e env u with
    | ok d u1 =>
      rw [q] at p
      have p : PostS T B F A (appD i env d u1) D := p
      unfold appD at p
      cases z : getS env i with
      | own ds => exact ⟨ds, rfl⟩
      | no => rw [z] at p; exact p.elim
      | val d => rw [z] at p; exact p.elim
    | exc c a u1 => rw [q] at p; exact p.elim
    | bad => rw [q] at p; exact p.elim
  obtain ⟨ds, h0⟩ := hown
  obtain ⟨hi, q, vs, h1, h2, h3, h4⟩ := own_get a.en h0
  refine ⟨.ref q, h1, .inl ⟨rfl, vs, .inl (.inl h2)⟩, F, A, Ow, env, u, a.at_, p.post (R1 := RV T) fun d u1 F1 A1 y H1 g rl r p => ?_⟩
  have p : PostS T B F1 A1 ((if ds.length < line then ret (.nxt (setS env i (.own (ds ++ [d])))) else stuck : M Out) u1) D := by
    have p : PostS T B F1 A1 (appD i env d u1) D := p
    unfold appD at p; rw [h0] at p; exact p
  by_cases hl : ds.length < line
  · rw [if_pos hl] at p
    have h2' : H1 q = some (.lst vs) := g.fr _ _ h2 (a.rl.ow q i h3).2.1
    refine ⟨q, vs, y, rfl, rfl, h2', ?_, ?_⟩
    · rw [← h4.length, ← (show line = sizeLine by rw [sizeLine_eq]; rfl)]; exact hl
    · exact ((a.step g rl).updOw hi h1 h2' h3 ((h4.mono g.ext).append (.cons r .nil))).nx (show Nx T B F1 A1 (setS env i (.own (ds ++ [d]))) u1 D.nx from p)
  · rw [if_neg hl] at p; exact p.elim
theorem opr_lst {F H : Hp} {A : List Addr} {Ow : Addr → Option Nat} {u : U} {ds : List D} {v : V} (rl : Rl T F A Ow H u) (h : OpRep T F A Ow H (.lst ds) v) : ∃ q vs, v = .ref q ∧ H q = some (.lst vs) ∧ Reps T F A ds vs := by
  rcases h with h | ⟨p, vs, es, j, e1, e2, h1, h2, h3⟩
  · obtain ⟨q, vs, rfl, h1, h2⟩ := rep_lst h
    exact ⟨q, vs, rfl, rl.sub _ _ h1, h2⟩
  · cases e1; exact ⟨p, vs, e2, h1, h3⟩
theorem snd_s_ext {i : Nat} {x : Str} {o : Op} {e' : Expr} {p0 apos cpos : Pos} (hN : X.N[i]? = some x) (hv : Vis X.env.scope x) (hd : (x == ("__debug__" : Str)) = false) (hcd : (x == ("__classdict__" : Str)) = false) (he : PE X e' (tO T C P o)) (hn : notStar e' = true) (hline : (apos.endLine == cpos.line) = true) :
    PS X (.Expr (.Call (.Attribute (.Name x p0) "extend" apos) [e'] [] cpos) pos) (tS T C P (.ext i o)) := by
  refine (ps_expr (pe_bm PySem.F.plainAttrs_list PySem.F.slot_list_extend PySem.F.type_list_extend mt_extend (pe_var (i := i) hN hv hd hcd) (pa_cons he pa_nil (star_cons X.env hn)) rfl (few_ok (by simp [hn]) (by simp)) hline (star_cons X.env hn) rfl) rfl).weak fun D σ H ⟨B, F, A, Ow, env, u, a, p⟩ => ?_
  have p : PostS T B F A ((denO C P o env u).bind (extD i env)) D := p
  have hown : ∃ ds, getS env i = .own ds := by
    cases q : denO C P o env u with
    | ok d u1 =>
      rw [q] at p
      have p : PostS T B F A (extD i env d u1) D := p
      unfold extD at p
      cases z : getS env i with
      | own ds => exact ⟨ds, rfl⟩
      | no => rw [z] at p; exact p.elim
      | val d => rw [z] at p; exact p.elim
    | exc c a u1 => rw [q] at p; exact p.elim
    | bad => rw [q] at p; exact p.elim
  obtain ⟨ds, h0⟩ := hown
  obtain ⟨hi, q, vs, h1, h2, h3, h4⟩ := own_get a.en h0
  refine ⟨.ref q, h1, .inl ⟨rfl, vs, .inl (.inl h2)⟩, F, A, Ow, env, u, a.at_, p.post (R1 := RO T Ow) fun d u1 F1 A1 y H1 g rl r p => ?_⟩
  obtain ⟨es, rfl⟩ : ∃ es, d = .lst es := by
    have p : PostS T B F1 A1 (extD i env d u1) D := p
    unfold extD at p; rw [h0] at p
    cases d <;> first | exact ⟨_, rfl⟩ | exact p.elim
  have p : PostS T B F1 A1 ((if ds.length + es.length ≤ line then ret (.nxt (setS env i (.own (ds ++ es)))) else stuck : M Out) u1) D := by
    have p : PostS T B F1 A1 (extD i env (.lst es) u1) D := p
    unfold extD at p; rw [h0] at p; exact p
  obtain ⟨b, ws, rfl, hb, hr⟩ := opr_lst rl r
  by_cases hl : ds.length + es.length ≤ line
  · rw [if_pos hl] at p
    have h2' : H1 q = some (.lst vs) := g.fr _ _ h2 (a.rl.ow q i h3).2.1
    refine ⟨q, b, vs, ws, rfl, rfl, h2', hb, ?_, ?_⟩
    · rw [← h4.length, ← hr.length, ← (show line = sizeLine by rw [sizeLine_eq]; rfl)]; exact hl
    · exact ((a.step g rl).updOw hi h1 h2' h3 ((h4.mono g.ext).append hr)).nx (show Nx T B F1 A1 (setS env i (.own (ds ++ es))) u1 D.nx from p)
  · rw [if_neg hl] at p; exact p.elim
theorem snd_s_ins {i : Nat} {x : Str} {c e : CE} {c' e' : Expr} {p0 apos cpos : Pos} (hN : X.N[i]? = some x) (hv : Vis X.env.scope x) (hd : (x == ("__debug__" : Str)) = false) (hcd : (x == ("__classdict__" : Str)) = false) (hc : PE X c' (tE T C P c)) (hn' : notStar c' = true) (he : PE X e' (tE T C P e)) (hn : notStar e' = true) (hline : (apos.endLine == cpos.line) = true) :
    PS X (.Expr (.Call (.Attribute (.Name x p0) "insert" apos) [c', e'] [] cpos) pos) (tS T C P (.ins i c e)) := by
  refine (ps_expr (pe_bm PySem.F.plainAttrs_list PySem.F.slot_list_insert PySem.F.type_list_insert mt_insert (pe_var (i := i) hN hv hd hcd) (pa_cons hc (pa_cons he pa_nil (star_cons X.env hn)) (star_cons X.env hn')) rfl (few_ok (by simp [hn, hn']) (by simp)) hline (star_cons X.env hn') (by rw [star_cons X.env hn]; rfl)) rfl).weak fun D σ H ⟨B, F, A, Ow, env, u, a, p⟩ => ?_
  have p : PostS T B F A ((denE C P c env u).bind fun x => M.bind (denE C P e env) (insD i env x)) D := p
  have hown : ∃ ds, getS env i = .own ds := by
    cases q : denE C P c env u with
    | ok d u1 =>
      rw [q] at p
      have p : PostS T B F A ((denE C P e env u1).bind (insD i env d)) D := p
      cases q2 : denE C P e env u1 with
      | ok d2 u2 =>
        rw [q2] at p
        have p : PostS T B F A (insD i env d d2 u2) D := p
        unfold insD at p
        cases z : getS env i with
        | own ds => exact ⟨ds, rfl⟩
        | no => rw [z] at p; exact p.elim
        | val d => rw [z] at p; exact p.elim
      | exc c a u1 => rw [q2] at p; exact p.elim
      | bad => rw [q2] at p; exact p.elim
    | exc c a u1 => rw [q] at p; exact p.elim
    | bad => rw [q] at p; exact p.elim
  obtain ⟨ds, h0⟩ := hown
  obtain ⟨hi, q, vs, h1, h2, h3, h4⟩ := own_get a.en h0
  refine ⟨.ref q, h1, .inl ⟨rfl, vs, .inl (.inl h2)⟩, F, A, Ow, env, u, a.at_, p.post (R1 := RV T) fun d u1 F1 A1 y H1 g rl r p => ?_⟩
  have p : PostS T B F1 A1 ((denE C P e env u1).bind (insD i env d)) D := p
  refine ⟨F1, A1, Ow, env, u1, (a.step g rl).at_, p.post (R1 := RV T) fun d2 u2 F2 A2 y2 H2 g2 rl2 r2 p => ?_⟩
  obtain ⟨k, rfl⟩ : ∃ k, d = .int k := by
    have p : PostS T B F2 A2 (insD i env d d2 u2) D := p
    unfold insD at p; rw [h0] at p
    cases d <;> first | exact ⟨_, rfl⟩ | exact p.elim
  obtain rfl := rep_int r
  have p : PostS T B F2 A2 ((if 0 ≤ k ∧ k ≤ ds.length ∧ ds.length < 1000000 then ret (.nxt (setS env i (.own (ds.take k.toNat ++ [d2] ++ ds.drop k.toNat)))) else stuck : M Out) u2) D := by
    have p : PostS T B F2 A2 (insD i env (.int k) d2 u2) D := p
    unfold insD at p; rw [h0] at p; exact p
  by_cases hl : 0 ≤ k ∧ k ≤ ds.length ∧ ds.length < 1000000
  · rw [if_pos hl] at p
    have h2' : H2 q = some (.lst vs) := (g.trans g2).fr _ _ h2 (a.rl.ow q i h3).2.1
    have ex := (g.trans g2).ext
    refine ⟨q, vs, k, y2, rfl, rfl, h2', ?_, hl.1, by omega, ?_⟩
    · rw [← h4.length, sizeLine_eq]; omega
    · exact (((a.step g rl).step g2 rl2).updOw hi h1 h2' h3 ((((h4.mono ex).take k.toNat).append (.cons r2 .nil)).append ((h4.mono ex).drop k.toNat))).nx (show Nx T B F2 A2 (setS env i (.own (ds.take k.toNat ++ [d2] ++ ds.drop k.toNat))) u2 D.nx from p)
  · rw [if_neg hl] at p; exact p.elim
end
end Lv

end Part_Lev7

section Part_Lev8
set_option maxRecDepth 100000
set_option maxHeartbeats 2000000
/-! Lev8: list(range(..)); lengths. -/
namespace Lv
open PySem PySem.Spec PyProof.Rows L2
section
variable {T : Sta} {C : Cfg} {P : Phi} {X : Cx} {pos : Pos}
theorem rgV_reps {F : Hp} {A : List Addr} (lo hi : Int) : Reps T F A (rngL lo hi) (rgV lo hi) := by
  unfold rngL rgV
  generalize (hi - lo).toNat = n
  have key : ∀ (l : List Nat), Reps T F A (l.map fun i => D.int (lo + (i : Nat))) (l.map fun i => V.int (lo + (i : Nat))) := fun l => by
    induction l with
    | nil => exact .nil
    | cons a l ih => exact .cons (.int _) ih
  exact key _
theorem laid_new {F H : Hp} {A : List Addr} {Ow : Addr → Option Nat} {u : U} {H0 : Hp} {ds : List D} {vs : List V} {q : Addr} {Q : VK} (rl : Rl T F A Ow H u) (hq : H q = none) (h0 : H0 q = none) (r : Reps T F A ds vs) (p : Post T Ow F A H (.ok ds u) (FrRep T Ow H0) Q) : Q (.ref q) (upd H q (.lst vs)) := by
  have fq : F q = none := by
    cases z : F q with
    | none => rfl
    | some o => rw [rl.sub _ _ z] at hq; cases hq
  have aq : q ∉ A := fun z => by
    obtain ⟨i, hi, e⟩ := List.getElem_of_mem z
    have h1 : A[i]? = some q := by rw [List.getElem?_eq_getElem hi, e]
    have h2 : i < u.length := by rw [← rl.len]; exact hi
    obtain ⟨_, vs, h3, _⟩ := rl.cel i q u[i] h1 (List.getElem?_eq_getElem h2)
    rw [hq] at h3; cases h3
  have oq : Ow q = none := by
    cases z : Ow q with
    | none => rfl
    | some i => exact absurd hq (rl.ow q i z).2.2
  exact p (.ref q) F A _ ((Go.refl F A H).updD hq) (rl.updD fq aq) ⟨q, vs, rfl, upd_same, fq, aq, oq, h0, r⟩
theorem rgOk_of {a b : Int} (h1 : rngOk a = true) (h2 : rngOk b = true) (h3 : (rngL a b).length ≤ line) : RgOk a b := by
  have a1 := rngOk_of h1
  have a2 := rngOk_of h2
  refine ⟨a1.1, a1.2, a2.1, a2.2, ?_⟩
  unfold rngL at h3
  rw [List.length_map, List.length_range] at h3
  exact h3
theorem snd_lstR1 (hc : X.calm = true) {a : CE} {a' : Expr} {p p1 p2 : Pos} (hg : Gl X "list") (hm : X.mg "list" = none) (hg2 : Gl X "range") (hm2 : X.mg "range" = none) (ha : PE X a' (tE T C P a)) (hn : notStar a' = true) : PE X (.Call (.Name "list" p) [.Call (.Name "range" p1) [a'] [] p2] [] pos) (tF T C P (.lstR (.rng1 a))) := by
  refine (pe_listRg hc hg hm (prg_1 hg2 hm2 ha (star_cons X.env hn))).weak fun σ H Q ⟨F, A, Ow, env, u, at_, p⟩ => ?_
  have p : Post T Ow F A H (((denE C P a env u).bind fun d => lift (rng1D d)).bind fun ds => if ds.length ≤ line then ret ds else stuck) (FrRep T Ow H) Q := p
  rw [bind_assoc] at p
  refine ⟨F, A, Ow, env, u, at_, (p.bind (R1 := RV T)).imp fun x H1 ⟨d, u1, F1, A1, g1, rl1, r1, p1⟩ => ?_⟩
  obtain ⟨j, rfl⟩ : ∃ j, d = .int j := by cases d <;> first | exact ⟨_, rfl⟩ | exact p1.elim
  obtain rfl := rep_int r1
  have p1 : Post T Ow F1 A1 H1 ((lift (if rngOk j = true then some (rngL 0 j) else none) u1).bind fun ds => if ds.length ≤ line then ret ds else stuck) (FrRep T Ow H) Q := p1
  by_cases h : rngOk j = true
  · rw [if_pos h] at p1
    have p1 : Post T Ow F1 A1 H1 ((if (rngL 0 j).length ≤ line then ret (rngL 0 j) else stuck : M (List D)) u1) (FrRep T Ow H) Q := p1
    by_cases hl : (rngL 0 j).length ≤ line
    · rw [if_pos hl] at p1
      exact ⟨j, rfl, rgOk_of (by decide) h hl, fun q hq => laid_new rl1 hq (g1.none hq) (rgV_reps _ _) p1⟩
    · rw [if_neg hl] at p1; exact p1.elim
  · rw [if_neg h] at p1; exact p1.elim
theorem snd_lstR2 (hc : X.calm = true) {a b : CE} {a' b' : Expr} {p p1 p2 : Pos} (hg : Gl X "list") (hm : X.mg "list" = none) (hg2 : Gl X "range") (hm2 : X.mg "range" = none) (ha : PE X a' (tE T C P a)) (hn : notStar a' = true) (hb : PE X b' (tE T C P b)) (hn2 : notStar b' = true) : PE X (.Call (.Name "list" p) [.Call (.Name "range" p1) [a', b'] [] p2] [] pos) (tF T C P (.lstR (.rng2 a b))) := by
  refine (pe_listRg hc hg hm (prg_2 hg2 hm2 ha hb (star_cons X.env hn) (star_cons X.env hn2) (by rw [star_cons X.env hn2]; rfl))).weak fun σ H Q ⟨F, A, Ow, env, u, at_, p⟩ => ?_
  have p : Post T Ow F A H (((denE C P a env u).bind fun d => M.bind (denE C P b env) fun e => lift (rng2D d e)).bind fun ds => if ds.length ≤ line then ret ds else stuck) (FrRep T Ow H) Q := p
  rw [bind_assoc] at p
  refine ⟨F, A, Ow, env, u, at_, (p.bind (R1 := RV T)).imp fun x H1 ⟨d, u1, F1, A1, g1, rl1, r1, p1⟩ => ?_⟩
  have p1 : Post T Ow F1 A1 H1 (((denE C P b env u1).bind fun e => lift (rng2D d e)).bind fun ds => if ds.length ≤ line then ret ds else stuck) (FrRep T Ow H) Q := p1
  rw [bind_assoc] at p1
  refine ⟨F1, A1, Ow, env, u1, at_.go g1 rl1, (p1.bind (R1 := RV T)).imp fun y H2 ⟨e, u2, F2, A2, g2, rl2, r2, p2⟩ => ?_⟩
  obtain ⟨i, rfl⟩ : ∃ j, d = .int j := by cases d <;> first | exact ⟨_, rfl⟩ | exact p2.elim
  obtain ⟨j, rfl⟩ : ∃ j, e = .int j := by cases e <;> first | exact ⟨_, rfl⟩ | exact p2.elim
  obtain rfl := rep_int r1
  obtain rfl := rep_int r2
  have p2 : Post T Ow F2 A2 H2 ((lift (if (rngOk i && rngOk j) = true then some (rngL i j) else none) u2).bind fun ds => if ds.length ≤ line then ret ds else stuck) (FrRep T Ow H) Q := p2
  by_cases h : (rngOk i && rngOk j) = true
  · rw [if_pos h] at p2
    rw [Bool.and_eq_true] at h
    have p2 : Post T Ow F2 A2 H2 ((if (rngL i j).length ≤ line then ret (rngL i j) else stuck : M (List D)) u2) (FrRep T Ow H) Q := p2
    by_cases hl : (rngL i j).length ≤ line
    · rw [if_pos hl] at p2
      exact ⟨i, j, rfl, rfl, rgOk_of h.1 h.2 hl, fun q hq => laid_new rl2 hq (g1.none (g2.none hq)) (rgV_reps _ _) p2⟩
    · rw [if_neg hl] at p2; exact p2.elim
  · rw [if_neg h] at p2; exact p2.elim
end
/-! ### lengths -/
def lenEs : CEs → Nat
  | .nil => 0
  | .cons _ es => lenEs es + 1
theorem lenEs_ok (C : Cfg) (P : Phi) : ∀ (es : CEs) (env : Env) (u u1 : U) (ds : List D), denEs C P es env u = .ok ds u1 → ds.length = lenEs es
  | .nil, env, u, u1, ds, e => by
    have e : Res.ok [] u = .ok ds u1 := e
    cases e; rfl
  | .cons a es, env, u, u1, ds, e => by
    have e : ((denE C P a env u).bind fun d => M.bind (denEs C P es env) fun r => ret (d :: r)) = .ok ds u1 := e
    cases q1 : denE C P a env u with
    | exc c a u => rw [q1] at e; cases e
    | bad => rw [q1] at e; cases e
    | ok d u2 =>
      rw [q1] at e
      have e : ((denEs C P es env u2).bind fun r => ret (d :: r)) = .ok ds u1 := e
      cases q2 : denEs C P es env u2 with
      | exc c a u => rw [q2] at e; cases e
      | bad => rw [q2] at e; cases e
      | ok r u3 =>
        rw [q2] at e
        cases e
        exact congrArg (· + 1) (lenEs_ok C P es env u2 _ r q2)
end Lv

end Part_Lev8

section Part_Lev9
set_option maxRecDepth 100000
set_option maxHeartbeats 4000000
/-! Lev9: the checker: a term of the small language against the program's tree. -/
namespace Lv
open PySem PySem.Spec PyProof.Rows L2

/-- where one stands -/
structure Ct where
  N : List Str
  sc : Scope
  fo : Option Scope
def nmOk (x : Str) : Bool := !(x == ("__debug__" : Str)) && !(x == ("__classdict__" : Str))
def seeB (c : Ct) (i : Nat) (x : Str) : Bool := decide (c.N[i]? = some x) && (decide (c.sc.names.lookup x = some .local) || decide (c.sc.names.lookup x = some .cell) || decide (c.sc.names.lookup x = some .free)) && nmOk x
def glB (c : Ct) (x : Str) : Bool := decide (c.sc.names.lookup x = some .globalImplicit) && nmOk x
def putB (c : Ct) (i : Nat) (x : Str) : Bool := decide (c.N[i]? = some x) && (decide (c.sc.names.lookup x = some .local) || (decide (c.sc.names.lookup x = some .cell) && match c.fo with | none => true | some s => s.names.lookup x == some .cell))
def bltB (c : Ct) (b : String) (x : Str) : Bool := decide (x = Str.ofString b) && glB c x
def defB (I : SI) (c : Ct) (f : Nat) (x : Str) : Bool := (match I.fs[f]? with | some p => decide (p.1 = x) | none => false) && glB c x
def binB : BinO → Operator → Bool
  | .add, .Add | .sub, .Sub | .mul, .Mult | .fdiv, .FloorDiv | .mod, .Mod | .pow, .Pow => true
  | _, _ => false
def cmpB : CmpO → CmpOp → Bool
  | .lt, .Lt | .le, .LtE | .gt, .Gt | .ge, .GtE | .eq, .Eq | .ne, .NotEq | .is_, .Is | .isnot, .IsNot | .in_, .In | .notin, .NotIn => true
  | _, _ => false
def plainT : Expr → Bool
  | .UnaryOp .Not _ _ => false
  | .BoolOp .. => false
  | .IfExp .. => false
  | .Compare .. => false
  | _ => true
def noIs : CmpO → Bool
  | .is_ | .isnot => false
  | _ => true
def tyB (c : Ct) : List Ty → List Expr → Bool
  | [], [] => true
  | t :: ts, .Name x _ :: es => bltB c t.name x && tyB c ts es
  | _, _ => false
def isNilB : CEs → Bool
  | .nil => true
  | _ => false
def ownOf (c : Ct) (vs : List Nat) : List (Str × Nat) := vs.map fun i => ((c.N[i]?).getD "", i)
def blkB (c : Ct) (scope : Scope) (vs : List Nat) : Bool :=
  decide (scope.kind = .function) && scope.names.all (fun y => decide (scope.names.lookup y.1 = some y.2)) && vs.all (fun i => (c.N[i]?).isSome) &&
  scope.names.all (fun y => !decide (y.2 = .free) || (decide (c.sc.names.lookup y.1 = some .cell) || decide (c.sc.names.lookup y.1 = some .free))) &&
  scope.names.all (fun y => !(decide (y.2 = .local) || decide (y.2 = .cell)) || ((ownOf c vs).map (·.1)).contains y.1 || !c.N.contains y.1)
def Ct.sub (c : Ct) (scope : Scope) : Ct := ⟨c.N, relS scope c.sc, some scope⟩
def kwB (I : SI) (f j n : Nat) (kws : List Keyword) : Bool := match I.kw[j]? with
  | some (f', n', ks, _) => decide (f' = f) && decide (n' = n) && decide (kws.map (·.arg) = ks.map some)
  | none => false

mutual
def mE (I : SI) (c : Ct) : CE → Bool → Expr → Bool
  | .loc i, t, e' => match e' with
    | .Name x _ => seeB c i x
    | _ => false
  | .cst k, t, e' => match k, e' with
    | .int i, .Constant (.int j) _ _ => decide (i = j)
    | .bl i, .Constant (.bool j) _ _ => decide (i = j)
    | .str i, .Constant (.str j) _ _ => decide (i = j)
    | .non, .Constant .none _ _ => true
    | _, _ => false
  | .glb j, t, e' => match e' with
    | .Name x _ => decide (I.gl[j]? = some x) && glB c x
    | _ => false
  | .fnv f, t, e' => match e' with
    | .Name x _ => defB I c f x
    | _ => false
  | .bin o a b, t, e' => match e' with
    | .BinOp a' o' b' _ => binB o o' && mE I c a false a' && mE I c b false b'
    | _ => false
  | .neg a, t, e' => match e' with
    | .UnaryOp .USub a' _ => mE I c a false a'
    | _ => false
  | .notv a, t, e' => match e' with
    | .UnaryOp .Not a' _ => mE I c a t a'
    | _ => false
  | .andv es, t, e' => match e' with
    | .BoolOp .And l _ => mAO I c es t l
    | _ => false
  | .orv es, t, e' => match e' with
    | .BoolOp .Or l _ => mAO I c es t l
    | _ => false
  | .cmp o a b, t, e' => match e' with
    | .Compare a' [o'] [b'] _ => cmpB o o' && !behindInMarks o' b' && mO I c a a' && mO I c b b'
    | _ => false
  | .cmp2 o o2 a b d, t, e' => match e' with
    | .Compare a' [o', o2'] [b', d'] _ => cmpB o o' && cmpB o2 o2' && noIs o && noIs o2 && !lastMarks [o', o2'] [b', d'] && mE I c a false a' && mE I c b false b' && mE I c d false d'
    | _ => false
  | .ite k a b, t, e' => match e' with
    | .IfExp k' a' b' _ => mE I c k true k' && mE I c a t a' && mE I c b t b'
    | _ => false
  | .tup es, t, e' => match e' with
    | .Tuple l _ _ => decide (l.length ≤ 1000) && mEs I c es l
    | _ => false
  | .newc es, t, e' => match e' with
    | .List l _ => decide (l.length ≤ 1000) && mEs I c es l
    | _ => false
  | .idx a i, t, e' => match e' with
    | .Subscript a' i' _ => plainIx i' && mO I c a a' && mE I c i false i'
    | _ => false
  | .slT a lo hi, t, e' => match e' with
    | .Subscript a' (.Slice lo' hi' none _) _ => mO I c a a' && mB I c lo lo' && mB I c hi hi'
    | _ => false
  | .revT _, _, _ => false
  | .call f es, t, e' => match e' with
    | .Call (.Name x _) (a' :: l) [] _ => defB I c f x && mEs I c es (a' :: l)
    | _ => false
  | .callK f j es ks, t, e' => match e' with
    | .Call (.Name x _) l kws _ => defB I c f x && kwB I f j l.length kws && mEs I c es l && mKs I c ks kws
    | _ => false
  | .callL i es, t, e' => match e' with
    | .Call (.Name x _) (a' :: l) [] _ => seeB c i x && mEs I c es (a' :: l)
    | _ => false
  | .bi b es, t, e' => match e' with
    | .Call (.Name x _) (a' :: l) [] _ => bltB c b.nm x && (if b = .gcd then I.gcd else true) && mOs I c es (a' :: l)
    | _ => false
  | .isi a ts sole, t, e' => match e' with
    | .Call (.Name x _) [a', t'] [] _ => bltB c "isinstance" x && notStar a' && mE I c a false a' && (match sole, t' with
      | true, .Name y p => decide (ts.length = 1) && tyB c ts [.Name y p]
      | false, .Tuple l _ _ => decide (ts.length ≤ 100) && tyB c ts l
      | _, _ => false)
    | _ => false
  | .fr f, t, e' => mF I c f e'
def mB (I : SI) (c : Ct) : OpB → Option Expr → Bool
  | .no, none => true
  | .so e, some e' => mE I c e false e'
  | _, _ => false
def mO (I : SI) (c : Ct) : Op → Expr → Bool
  | .v e, e' => mE I c e false e'
  | .bor i, e' => match e' with
    | .Name x _ => seeB c i x
    | _ => false
def mOs (I : SI) (c : Ct) : Ops → List Expr → Bool
  | .nil, [] => true
  | .cons o os, e' :: l => notStar e' && mO I c o e' && mOs I c os l
  | _, _ => false
def mEs (I : SI) (c : Ct) : CEs → List Expr → Bool
  | .nil, [] => true
  | .cons e es, e' :: l => notStar e' && mE I c e false e' && mEs I c es l
  | _, _ => false
def mKs (I : SI) (c : Ct) : CEs → List Keyword → Bool
  | .nil, [] => true
  | .cons e es, ⟨_, e', _⟩ :: l => mE I c e false e' && mKs I c es l
  | _, _ => false
def mAO (I : SI) (c : Ct) : CEs → Bool → List Expr → Bool
  | .nil, _, _ => false
  | .cons e es, t, l => match l with
    | [] => false
    | e' :: r => mE I c e t e' && (match r with | [] => isNilB es | _ :: _ => mAO I c es t r)
def mCs (I : SI) (c : Ct) : CEs → List Expr → Bool
  | .nil, [] => true
  | .cons e es, [e'] => mE I c e true e' && isNilB es
  | _, _ => false
def mF (I : SI) (c : Ct) : FE → Expr → Bool
  | .disp es, e' => match e' with
    | .List l _ => decide (l.length ≤ 1000) && mEs I c es l
    | _ => false
  | .cat a b, e' => match e' with
    | .BinOp a' .Add b' _ => mO I c a a' && mO I c b b'
    | _ => false
  | .lc elt vs tg it cs, e' => match e' with
    | .ListComp elt' [⟨tg', iter', ifs', 0⟩] scope _ => blkB c scope vs && notSet iter' && pureT tg && (slotsT tg).all (fun i => vs.contains i) && mI I c it tg' iter' && mT (c.sub scope) tg tg' && mCs I (c.sub scope) cs ifs' && mE I (c.sub scope) elt false elt'
    | _ => false
  | .lst o, e' => match e' with
    | .Call (.Name x _) [a'] [] _ => bltB c "list" x && notStar a' && mO I c o a'
    | _ => false
  | .lstR it, e' => match it, e' with
    | .rng1 a, .Call (.Name x _) [.Call (.Name y _) [a'] [] _] [] _ => bltB c "list" x && bltB c "range" y && notStar a' && mE I c a false a'
    | .rng2 a b, .Call (.Name x _) [.Call (.Name y _) [a', b'] [] _] [] _ => bltB c "list" x && bltB c "range" y && notStar a' && notStar b' && mE I c a false a' && mE I c b false b'
    | _, _ => false
  | .sorted o, e' => match e' with
    | .Call (.Name x _) [a'] [] _ => bltB c "sorted" x && notStar a' && mO I c o a'
    | _ => false
  | .rep a n, e' => match e' with
    | .BinOp a' .Mult n' _ => mO I c a a' && mE I c n false n'
    | _ => false
  | .sl a lo hi, e' => match e' with
    | .Subscript a' (.Slice lo' hi' none _) _ => mO I c a a' && mB I c lo lo' && mB I c hi hi'
    | _ => false
  | .rev a, e' => match e' with
    | .Subscript a' (.Slice none none (some (.UnaryOp .USub (.Constant (.int 1) _ _) _)) _) _ => mO I c a a'
    | _ => false
def mI (I : SI) (c : Ct) : It → Expr → Expr → Bool
  | .seq o, tg, e' => mO I c o e'
  | .rng1 a, tg, e' => match e' with
    | .Call (.Name x _) [a'] [] _ => bltB c "range" x && notStar a' && mE I c a false a'
    | _ => false
  | .rng2 a b, tg, e' => match e' with
    | .Call (.Name x _) [a', b'] [] _ => bltB c "range" x && notStar a' && notStar b' && mE I c a false a' && mE I c b false b'
    | _ => false
  | .enm a k, tg, e' => match tg, k, e' with
    | .Tuple .., none, .Call (.Name x _) [a'] [] _ => bltB c "enumerate" x && notStar a' && mE I c a false a'
    | .Tuple .., some j, .Call (.Name x _) [a', .Constant (.int j') _ _] [] _ => bltB c "enumerate" x && notStar a' && mE I c a false a' && decide (j = j')
    | _, _, _ => false
  | .zip a b, tg, e' => match tg, e' with
    | .Tuple .., .Call (.Name x _) [a', b'] [] _ => bltB c "zip" x && notStar a' && notStar b' && mE I c a false a' && mE I c b false b'
    | _, _ => false
def mT (c : Ct) : Tg → Expr → Bool
  | .nm i, e' => match e' with
    | .Name x _ => putB c i x
    | _ => false
  | .tp ts, e' => match e' with
    | .Tuple l _ _ => mTs c ts l
    | _ => false
  | .ix _ _, _ => false
def mTs (c : Ct) : Tgs → List Expr → Bool
  | .nil, [] => true
  | .cons t ts, e' :: l => notStar e' && mT c t e' && mTs c ts l
  | _, _ => false
end

/-! ### what is known where one stands -/
def blts : List String := ["len", "sum", "max", "min", "abs", "int", "all", "any", "tuple", "divmod", "isinstance", "range", "enumerate", "zip", "list", "bool", "str", "dict", "sorted"]
structure Gd (T : Sta) (I : SI) (C : Cfg) (P : Phi) (k : Nat) (X : Cx) (c : Ct) : Prop where
  hK : X.K = T.K
  hN : X.N = c.N
  sc : X.env.scope = c.sc
  nd : c.N.Nodup
  calm : X.calm = true
  fnv : ∀ x : Str, (match c.fo with | none => true | some s => s.names.lookup x == some .cell) = true → X.fn x = true
  defs : ∀ (f : Nat) (x : Str) (ps : List Str), I.fs[f]? = some (x, ps) → ∃ a fd, T.fnAd f = some a ∧ X.mg x = some (.ref a) ∧ FnOk X.prog X.w X.K X.mg X.base CX0 k a fd ps (spF T P ps.length f) ∧ PySem.W.keepIn X.K (.ref a) = true ∧ Binds X.K fd ps [] ∧
    ∀ (j n : Nat) (ks : List Str) (pm : List Nat), I.kw[j]? = some (f, n, ks, pm) → C.perm[j]? = some pm ∧ KBinds X.K fd ps ks (kG n ks.length pm) (kG n ks.length pm)
  arity : ∀ (f : Nat) (x : Str) (ps : List Str), I.fs[f]? = some (x, ps) → ∀ ds u, ds.length ≠ ps.length → P f ds u = .bad
  noF : ∀ (f : Nat), I.fs[f]? = none → T.fnAd f = none
  inj : ∀ f f' a, T.fnAd f = some a → T.fnAd f' = some a → f = f'
  room : Room k X.A
  fr : ∀ b ∈ blts, X.mg (Str.ofString b) = none
  gcd : I.gcd = true → X.mg (Str.ofString "gcd") = some (.builtin "math.gcd")
  glb : ∀ (j : Nat) (x : Str), I.gl[j]? = some x → ∃ u v d, X.mg x = some u ∧ RelV v u ∧ C.glb[j]? = some d ∧ ∀ F A, Rep T F A d v
section
variable {T : Sta} {I : SI} {C : Cfg} {P : Phi} {k : Nat} {X : Cx} {c : Ct} {pos : Pos}
theorem Gd.sub (G : Gd T I C P k X c) (s : Shared) (H : Hp) (scope : Scope) (cl : List (Str × Addr)) (Ca : Addr) (fp : List Addr) : Gd T I C P k (X.blk s H scope (compEnvC scope cl Ca X.env) fp) (c.sub scope) :=
  { hK := G.hK, hN := G.hN, sc := by show relS scope X.env.scope = relS scope c.sc; rw [G.sc], nd := G.nd, calm := G.calm, fnv := fun x h => h, defs := G.defs, arity := G.arity, noF := G.noF, inj := G.inj, room := G.room, fr := G.fr, gcd := G.gcd, glb := G.glb }
theorem nmOk_of {x : Str} (h : nmOk x = true) : (x == ("__debug__" : Str)) = false ∧ (x == ("__classdict__" : Str)) = false := by
  unfold nmOk at h
  rw [Bool.and_eq_true, Bool.not_eq_true', Bool.not_eq_true'] at h
  exact h
theorem Gd.see (G : Gd T I C P k X c) {i : Nat} {x : Str} (h : seeB c i x = true) : X.N[i]? = some x ∧ Vis X.env.scope x ∧ (x == ("__debug__" : Str)) = false ∧ (x == ("__classdict__" : Str)) = false := by
  unfold seeB at h
  simp only [Bool.and_eq_true, Bool.or_eq_true, decide_eq_true_eq] at h
  obtain ⟨⟨h1, h2⟩, h3⟩ := h
  refine ⟨by rw [G.hN]; exact h1, ?_, nmOk_of h3⟩
  rw [G.sc]
  rcases h2 with (h2 | h2) | h2
  · exact .inl h2
  · exact .inr (.inl h2)
  · exact .inr (.inr h2)
theorem Gd.gl (G : Gd T I C P k X c) {x : Str} (h : glB c x = true) : Gl X x ∧ (x == ("__debug__" : Str)) = false := by
  unfold glB at h
  rw [Bool.and_eq_true, decide_eq_true_eq] at h
  refine ⟨?_, (nmOk_of h.2).1⟩
  show X.env.scope.names.lookup x = some .globalImplicit
  rw [G.sc]; exact h.1
theorem Gd.put (G : Gd T I C P k X c) {i : Nat} {x : Str} (h : putB c i x = true) : X.N[i]? = some x ∧ Loc X.env.scope x ∧ (X.fn x = true ∨ X.env.scope.names.lookup x = some .local) := by
  unfold putB at h
  simp only [Bool.and_eq_true, Bool.or_eq_true, decide_eq_true_eq] at h
  obtain ⟨h1, h2⟩ := h
  refine ⟨by rw [G.hN]; exact h1, ?_⟩
  rw [G.sc]
  rcases h2 with h2 | ⟨h2, h3⟩
  · exact ⟨.inl h2, .inr h2⟩
  · exact ⟨.inr h2, .inl (G.fnv x h3)⟩
theorem Gd.blt (G : Gd T I C P k X c) {b : String} {x : Str} (h : bltB c b x = true) : x = Str.ofString b ∧ Gl X (Str.ofString b) ∧ (b ∈ blts → X.mg (Str.ofString b) = none) := by
  unfold bltB at h
  rw [Bool.and_eq_true, decide_eq_true_eq] at h
  obtain ⟨rfl, h2⟩ := h
  exact ⟨rfl, (G.gl h2).1, G.fr b⟩
theorem Gd.fun_ (G : Gd T I C P k X c) {f : Nat} {x : Str} (h : defB I c f x = true) : Gl X x ∧ (x == ("__debug__" : Str)) = false ∧ ∃ ps, I.fs[f]? = some (x, ps) := by
  unfold defB at h
  rw [Bool.and_eq_true] at h
  obtain ⟨h1, h2⟩ := h
  obtain ⟨g1, g2⟩ := G.gl h2
  refine ⟨g1, g2, ?_⟩
  split at h1
  · rename_i p e
    rw [decide_eq_true_eq] at h1
    subst h1
    exact ⟨p.2, e⟩
  · cases h1
theorem binB_of {o : BinO} {o' : Operator} (h : binB o o' = true) : o' = o.py := by
  unfold binB at h
  split at h <;> first | rfl | cases h
theorem cmpB_of {o : CmpO} {o' : CmpOp} (h : cmpB o o' = true) : o' = o.py := by
  unfold cmpB at h
  split at h <;> first | rfl | cases h
theorem noIs_of {o : CmpO} (h : noIs o = true) : o ≠ .is_ ∧ o ≠ .isnot := by
  cases o <;> first | exact ⟨by decide, by decide⟩ | cases h
theorem plainT_of {e : Expr} (h : plainT e = true) : ∀ whole, isTrue e X.env whole = (do let v ← whole; standAt e.pos; holding [v] (truthy v)) := by
  intro whole
  cases e <;> first | rfl | (rename_i o _ _; cases o <;> first | rfl | cases h) | cases h
theorem ty_in (t : Ty) : t.name ∈ blts := by cases t <;> decide
theorem bi_in (b : Bi) (h : b ≠ .gcd) : b.nm ∈ blts := by cases b <;> first | decide | exact absurd rfl h
theorem tyB_of (G : Gd T I C P k X c) : ∀ {ts : List Ty} {es : List Expr}, tyB c ts es = true → tyNames X ts es
  | [], [], _ => trivial
  | t :: ts, .Name x _ :: es, h => by
    have h : (bltB c t.name x && tyB c ts es) = true := h
    rw [Bool.and_eq_true] at h
    obtain ⟨e, g, m⟩ := G.blt h.1
    exact ⟨e, by rw [e]; exact g, by rw [e]; exact m (ty_in t), tyB_of G h.2⟩
  | [], _ :: _, h => by cases h
  | _ :: _, [], h => by cases h
theorem ownOf_snd (c : Ct) (vs : List Nat) : (ownOf c vs).map (·.2) = vs := by
  unfold ownOf
  rw [List.map_map]
  exact List.map_id vs
theorem blkB_of (G : Gd T I C P k X c) {scope : Scope} {vs : List Nat} (h : blkB c scope vs = true) : BlkOk X.N X.env.scope scope (ownOf c vs) := by
  unfold blkB at h
  simp only [Bool.and_eq_true, List.all_eq_true, decide_eq_true_eq, Bool.or_eq_true, Bool.not_eq_true', decide_eq_false_iff_not] at h
  obtain ⟨⟨⟨⟨h1, h2⟩, h3⟩, h4⟩, h5⟩ := h
  refine ⟨h1, h2, fun p hp => ?_, fun y hy e => ?_, fun y hy e => ?_⟩
  · unfold ownOf at hp
    obtain ⟨i, hi, rfl⟩ := List.mem_map.mp hp
    have := h3 i hi
    rw [G.hN]
    cases q : c.N[i]? with
    | none => rw [q] at this; cases this
    | some x => rfl
  · rw [G.sc]
    rcases h4 y hy with z | z
    · exact absurd e z
    · exact z
  · rw [G.hN]
    rcases h5 y hy with (z | z) | z
    · rw [Bool.or_eq_false_iff, decide_eq_false_iff_not, decide_eq_false_iff_not] at z
      rcases e with e | e
      · exact absurd e z.1
      · exact absurd e z.2
    · exact .inl (List.contains_iff_mem.mp z)
    · refine .inr fun m => ?_
      rw [List.contains_iff_mem.mpr m] at z
      cases z
end
/-! ### soundness -/
def SndE (T : Sta) (C : Cfg) (P : Phi) (X : Cx) (e : CE) (t : Bool) (e' : Expr) : Prop := if t = true then PT X e' (tT T C P e) else PE X e' (tE T C P e)
theorem SndE.of {T : Sta} {C : Cfg} {P : Phi} {X : Cx} {e : CE} {t : Bool} {e' : Expr} (h : PE X e' (tE T C P e)) (hp : plainT e' = true) : SndE T C P X e t e' := by
  cases t with
  | false => exact h
  | true => exact snd_tval h (plainT_of hp)
end Lv

end Part_Lev9

section Part_Lev10
set_option maxRecDepth 100000
set_option maxHeartbeats 4000000
/-! Lev10: the checker is right. -/
namespace Lv
open PySem PySem.Spec PyProof.Rows L2

def SndAO (T : Sta) (C : Cfg) (P : Phi) (X : Cx) (es : CEs) (t : Bool) (l : List Expr) : Prop := ∀ pos,
  (if t = true then PW X (.BoolOp .And l pos) (tTAnd T C P es) else PE X (.BoolOp .And l pos) (tAndE T C P es)) ∧
  (if t = true then PW X (.BoolOp .Or l pos) (tTOr T C P es) else PE X (.BoolOp .Or l pos) (tOrE T C P es))
theorem callBad {T : Sta} {I : SI} {C : Cfg} {P : Phi} {k : Nat} {X : Cx} {c : Ct} (G : Gd T I C P k X c) (f : Nat) (ps : List Str) (x : Str) (h : I.fs[f]? = some (x, ps)) : ∀ ds u, ds.length ≠ ps.length → P f ds u = .bad := G.arity f x ps h
def npOf (I : SI) (f : Nat) : Nat := match I.fs[f]? with
  | some p => p.2.length
  | none => 0
theorem Gd.held {T : Sta} {I : SI} {C : Cfg} {P : Phi} {k : Nat} {X : Cx} {c : Ct} (G : Gd T I C P k X c) : ∀ f a, T.fnAd f = some a → L2.Held X.prog X.w X.K X.mg X.base k a (spF T P (npOf I f) f) := by
  intro f a h
  cases q : I.fs[f]? with
  | none => rw [G.noF f q] at h; cases h
  | some p =>
    obtain ⟨a', fd, h1, h2, h3, h4, h5, _⟩ := G.defs f p.1 p.2 q
    rw [h] at h1; cases h1
    have e : npOf I f = p.2.length := by unfold npOf; rw [q]
    rw [e]
    exact ⟨fd, p.2, h3, h4, h5⟩
mutual
theorem mE_ok {T : Sta} {I : SI} {C : Cfg} {P : Phi} {k : Nat} : ∀ (e : CE) {X : Cx} {c : Ct} (G : Gd T I C P k X c) (t : Bool) (e' : Expr), mE I c e t e' = true → SndE T C P X e t e'
  | .loc i, X, c, G, t, e', h => by
    unfold mE at h
    split at h
    · obtain ⟨h1, h2, h3, h4⟩ := G.see h
      exact .of (snd_loc h1 h2 h3 h4) rfl
    · cases h
  | .cst k, X, c, G, t, e', h => by
    unfold mE at h
    split at h
    · rw [decide_eq_true_eq] at h; subst h; exact .of snd_int rfl
    · rw [decide_eq_true_eq] at h; subst h; exact .of snd_bl rfl
    · rw [decide_eq_true_eq] at h; subst h; exact .of snd_str rfl
    · exact .of snd_non rfl
    · cases h
  | .glb j, X, c, G, t, e', h => by
    unfold mE at h
    split at h
    · rw [Bool.and_eq_true, decide_eq_true_eq] at h
      obtain ⟨g1, g2⟩ := G.gl h.2
      obtain ⟨u, v, d, h1, h2, h3, h4⟩ := G.glb j _ h.1
      exact .of (snd_glb g1 h1 h2 g2 h3 h4) rfl
    · cases h
  | .fnv f, X, c, G, t, e', h => by
    unfold mE at h
    split at h
    · obtain ⟨g1, g2, ps, hf⟩ := G.fun_ h
      obtain ⟨a, fd, h1, h2, h3, h4, h5, _⟩ := G.defs f _ _ hf
      exact .of (snd_fnv g1 h2 g2 h1) rfl
    · cases h
  | .bin o a b, X, c, G, t, e', h => by
    unfold mE at h
    split at h
    · simp only [Bool.and_eq_true] at h
      obtain rfl := binB_of h.1.1
      exact .of (snd_bin G.hK (mE_ok a G false _ h.1.2) (mE_ok b G false _ h.2)) rfl
    · cases h
  | .neg a, X, c, G, t, e', h => by
    unfold mE at h
    split at h
    · exact .of (snd_neg (mE_ok a G false _ h)) rfl
    · cases h
  | .notv a, X, c, G, t, e', h => by
    unfold mE at h
    split at h
    · cases t with
      | false => exact snd_not (mE_ok a G false _ h)
      | true => exact snd_tnot (mE_ok a G true _ h)
    · cases h
  | .andv es, X, c, G, t, e', h => by
    unfold mE at h
    split at h
    · rename_i l pos
      have z := (mAO_ok es G t l h pos).1
      cases t with
      | false => exact z
      | true => exact z.pt
    · cases h
  | .orv es, X, c, G, t, e', h => by
    unfold mE at h
    split at h
    · rename_i l pos
      have z := (mAO_ok es G t l h pos).2
      cases t with
      | false => exact z
      | true => exact z.pt
    · cases h
  | .cmp o a b, X, c, G, t, e', h => by
    unfold mE at h
    split at h
    · simp only [Bool.and_eq_true, Bool.not_eq_true'] at h
      obtain ⟨⟨⟨h1, h2⟩, h3⟩, h4⟩ := h
      obtain rfl := cmpB_of h1
      cases t with
      | false => exact snd_cmp G.hK G.room.units (mO_ok a G _ h3) (mO_ok b G _ h4) h2
      | true => exact snd_tcmp G.hK G.room.units (mO_ok a G _ h3) (mO_ok b G _ h4) h2
    · cases h
  | .cmp2 o o2 a b d, X, c, G, t, e', h => by
    unfold mE at h
    split at h
    · simp only [Bool.and_eq_true, Bool.not_eq_true'] at h
      obtain ⟨⟨⟨⟨⟨⟨⟨h1, h2⟩, h3⟩, h4⟩, h5⟩, h6⟩, h7⟩, h8⟩ := h
      obtain rfl := cmpB_of h1
      obtain rfl := cmpB_of h2
      cases t with
      | false => exact snd_cmp2 G.hK G.room.units (noIs_of h3) (noIs_of h4) (mE_ok a G false _ h6) (mE_ok b G false _ h7) (mE_ok d G false _ h8) h5
      | true => exact snd_tcmp2 G.hK G.room.units (noIs_of h3) (noIs_of h4) (mE_ok a G false _ h6) (mE_ok b G false _ h7) (mE_ok d G false _ h8) h5
    · cases h
  | .ite b x y, X, c, G, t, e', h => by
    unfold mE at h
    split at h
    · simp only [Bool.and_eq_true] at h
      have z1 := mE_ok b G true _ h.1.1
      cases t with
      | false => exact snd_ite z1 (mE_ok x G false _ h.1.2) (mE_ok y G false _ h.2)
      | true => exact snd_tite z1 (mE_ok x G true _ h.1.2) (mE_ok y G true _ h.2)
    · cases h
  | .tup es, X, c, G, t, e', h => by
    unfold mE at h
    split at h
    · simp only [Bool.and_eq_true, decide_eq_true_eq] at h
      obtain ⟨z1, z2, z3⟩ := mEs_ok es G _ h.2
      exact .of (snd_tup z1 (Nat.le_of_lt (small1000 h.1)) fun F A env u u1 ds e => (lenEs_ok C P es env u u1 ds e).trans z2) rfl
    · cases h
  | .newc es, X, c, G, t, e', h => by
    unfold mE at h
    split at h
    · simp only [Bool.and_eq_true, decide_eq_true_eq] at h
      obtain ⟨z1, z2, z3⟩ := mEs_ok es G _ h.2
      exact .of (snd_newc z1 (Nat.le_of_lt (small1000 h.1)) fun env u u1 ds e => (lenEs_ok C P es env u u1 ds e).trans z2) rfl
    · cases h
  | .idx a i, X, c, G, t, e', h => by
    unfold mE at h
    split at h
    · simp only [Bool.and_eq_true] at h
      exact .of (snd_idx G.hK (mO_ok a G _ h.1.2) (mE_ok i G false _ h.2) h.1.1) rfl
    · cases h
  | .slT a lo hi, X, c, G, t, e', h => by
    unfold mE at h
    split at h
    · simp only [Bool.and_eq_true] at h
      exact .of (snd_slT G.hK (mO_ok a G _ h.1.1) (mB_ok lo G _ h.1.2) (mB_ok hi G _ h.2)) rfl
    · cases h
  | .revT _, X, c, G, t, e', h => by unfold mE at h; cases h
  | .call f es, X, c, G, t, e', h => by
    unfold mE at h
    split at h
    · simp only [Bool.and_eq_true] at h
      obtain ⟨g1, g2, ps, hf⟩ := G.fun_ h.1
      obtain ⟨a, fd, h1, h2, h3, h4, h5, _⟩ := G.defs f _ _ hf
      obtain ⟨z1, z2, z3⟩ := mEs_ok es G _ h.2
      exact .of (snd_call h3 G.room g1 h2 h4 h5 z1 g2 z3 (G.arity f _ _ hf)) rfl
    · cases h
  | .callK f j es ks, X, c, G, t, e', h => by
    unfold mE at h
    split at h
    · simp only [Bool.and_eq_true] at h
      obtain ⟨⟨⟨h1, h2⟩, h3⟩, h4⟩ := h
      obtain ⟨g1, g2, ps, hf⟩ := G.fun_ h1
      obtain ⟨a, fd, k1, k2, k3, k4, k5, k6⟩ := G.defs f _ _ hf
      obtain ⟨z1, z2, z3⟩ := mEs_ok es G _ h3
      obtain ⟨y1, y2⟩ := mKs_ok ks G _ h4
      unfold kwB at h2
      split at h2
      · rename_i f' n' kn pm e
        simp only [Bool.and_eq_true, decide_eq_true_eq] at h2
        obtain ⟨⟨rfl, rfl⟩, h2⟩ := h2
        obtain ⟨w1, w2⟩ := k6 j _ kn pm e
        have hl : kn.length = lenEs ks := by
          have := congrArg List.length h2
          rw [List.length_map, List.length_map] at this
          rw [← this, y2]
        exact .of (snd_callK k3 G.room g1 k2 k4 w2 w1 z1 y1 h2 g2 z3 (G.arity _ _ _ hf) (fun env u u1 ds e => (lenEs_ok C P es env u u1 ds e).trans z2) fun env u u1 ds e => (lenEs_ok C P ks env u u1 ds e).trans hl.symm) rfl
      · cases h2
    · cases h
  | .callL i es, X, c, G, t, e', h => by
    unfold mE at h
    split at h
    · simp only [Bool.and_eq_true] at h
      obtain ⟨h1, h2, h3, h4⟩ := G.see h.1
      obtain ⟨z1, z2, z3⟩ := mEs_ok es G _ h.2
      refine .of (snd_callL (np := npOf I) G.held G.room h1 h2 z1 h3 h4 z3 (fun f ds u hn hl => ?_) G.inj) rfl
      cases q : I.fs[f]? with
      | none => exact absurd (G.noF f q) hn
      | some p =>
        have e : npOf I f = p.2.length := by unfold npOf; rw [q]
        exact G.arity f p.1 p.2 q ds u (by rw [← e]; exact hl)
    · cases h
  | .bi b es, X, c, G, t, e', h => by
    unfold mE at h
    split at h
    · simp only [Bool.and_eq_true] at h
      obtain ⟨⟨h1, h2⟩, h3⟩ := h
      obtain ⟨rfl, g1, g2⟩ := G.blt h1
      obtain ⟨z1, z3⟩ := mOs_ok es G _ h3
      refine .of (snd_bi G.hK G.calm g1 ?_ z1 z3) rfl
      by_cases hb : b = .gcd
      · rw [if_pos hb] at h2 ⊢
        subst hb
        exact G.gcd h2
      · rw [if_neg hb]
        exact g2 (bi_in b hb)
    · cases h
  | .isi a ts sole, X, c, G, t, e', h => by
    unfold mE at h
    split at h
    · simp only [Bool.and_eq_true] at h
      obtain ⟨⟨⟨h1, h2⟩, h3⟩, h4⟩ := h
      obtain ⟨rfl, g1, g2⟩ := G.blt h1
      have g2 := g2 (by decide)
      have za := mE_ok a G false _ h3
      split at h4
      · rename_i y p
        rw [Bool.and_eq_true, decide_eq_true_eq] at h4
        obtain ⟨h4, h5⟩ := h4
        have z := tyB_of G h5
        refine .of (snd_isi G.hK g1 g2 za h2 ?_) rfl
        rw [if_pos rfl]
        match ts, h4, z with
        | [t], _, z => exact ⟨t, y, p, rfl, rfl, z⟩
      · rename_i l kk p
        rw [Bool.and_eq_true, decide_eq_true_eq] at h4
        obtain ⟨h4, h5⟩ := h4
        refine .of (snd_isi G.hK g1 g2 za h2 ?_) rfl
        rw [if_neg (by decide)]
        exact ⟨l, kk, p, rfl, tyB_of G h5, h4⟩
      · cases h4
    · cases h
  | .fr f, X, c, G, t, e', h => by
    unfold mE at h
    obtain ⟨z1, z2⟩ := mF_ok f G _ h
    exact .of (snd_fr z1) z2
theorem mB_ok {T : Sta} {I : SI} {C : Cfg} {P : Phi} {k : Nat} : ∀ (e : OpB) {X : Cx} {c : Ct} (G : Gd T I C P k X c) (e' : Option Expr), mB I c e e' = true → PO X e' (tB T C P e)
  | .no, X, c, G, none, h => snd_b_no
  | .no, X, c, G, some e', h => by unfold mB at h; cases h
  | .so e, X, c, G, none, h => by unfold mB at h; cases h
  | .so e, X, c, G, some e', h => by
    unfold mB at h
    exact snd_b_so (mE_ok e G false _ h)
theorem mO_ok {T : Sta} {I : SI} {C : Cfg} {P : Phi} {k : Nat} : ∀ (e : Op) {X : Cx} {c : Ct} (G : Gd T I C P k X c) (e' : Expr), mO I c e e' = true → PE X e' (tO T C P e)
  | .v e, X, c, G, e', h => by
    unfold mO at h
    exact snd_ov (mE_ok e G false _ h)
  | .bor i, X, c, G, e', h => by
    unfold mO at h
    split at h
    · obtain ⟨h1, h2, h3, h4⟩ := G.see h
      exact snd_bor h1 h2 h3 h4
    · cases h
theorem mOs_ok {T : Sta} {I : SI} {C : Cfg} {P : Phi} {k : Nat} : ∀ (e : Ops) {X : Cx} {c : Ct} (G : Gd T I C P k X c) (l : List Expr), mOs I c e l = true → PA X l (tOs T C P e) ∧ l.all notStar = true
  | .nil, X, c, G, [], h => ⟨snd_os_nil, rfl⟩
  | .nil, X, c, G, _ :: _, h => by unfold mOs at h; cases h
  | .cons _ _, X, c, G, [], h => by unfold mOs at h; cases h
  | .cons o os, X, c, G, e' :: l, h => by
    unfold mOs at h
    simp only [Bool.and_eq_true] at h
    obtain ⟨z1, z2⟩ := mOs_ok os G l h.2
    exact ⟨snd_os_cons (mO_ok o G _ h.1.2) z1 h.1.1, by rw [List.all_cons, h.1.1, z2]; rfl⟩
theorem mEs_ok {T : Sta} {I : SI} {C : Cfg} {P : Phi} {k : Nat} : ∀ (e : CEs) {X : Cx} {c : Ct} (G : Gd T I C P k X c) (l : List Expr), mEs I c e l = true → PA X l (tEs T C P e) ∧ lenEs e = l.length ∧ l.all notStar = true
  | .nil, X, c, G, [], h => ⟨snd_es_nil, rfl, rfl⟩
  | .nil, X, c, G, _ :: _, h => by unfold mEs at h; cases h
  | .cons _ _, X, c, G, [], h => by unfold mEs at h; cases h
  | .cons o os, X, c, G, e' :: l, h => by
    unfold mEs at h
    simp only [Bool.and_eq_true] at h
    obtain ⟨z1, z2, z3⟩ := mEs_ok os G l h.2
    exact ⟨snd_es_cons (mE_ok o G false _ h.1.2) z1 h.1.1, congrArg (· + 1) z2, by rw [List.all_cons, h.1.1, z3]; rfl⟩
theorem mKs_ok {T : Sta} {I : SI} {C : Cfg} {P : Phi} {k : Nat} : ∀ (e : CEs) {X : Cx} {c : Ct} (G : Gd T I C P k X c) (l : List Keyword), mKs I c e l = true → PK X l (tEs T C P e) ∧ lenEs e = l.length
  | .nil, X, c, G, [], h => ⟨snd_ks_nil, rfl⟩
  | .nil, X, c, G, _ :: _, h => by unfold mKs at h; cases h
  | .cons _ _, X, c, G, [], h => by unfold mKs at h; cases h
  | .cons o os, X, c, G, ⟨nm, e', kp⟩ :: l, h => by
    unfold mKs at h
    simp only [Bool.and_eq_true] at h
    obtain ⟨z1, z2⟩ := mKs_ok os G l h.2
    exact ⟨snd_ks_cons (mE_ok o G false _ h.1) z1, congrArg (· + 1) z2⟩
theorem mAO_ok {T : Sta} {I : SI} {C : Cfg} {P : Phi} {k : Nat} : ∀ (e : CEs) {X : Cx} {c : Ct} (G : Gd T I C P k X c) (t : Bool) (l : List Expr), mAO I c e t l = true → SndAO T C P X e t l
  | .nil, X, c, G, t, l, h => by unfold mAO at h; cases h
  | .cons e es, X, c, G, t, [], h => by unfold mAO at h; cases h
  | .cons e es, X, c, G, t, [e'], h => by
    unfold mAO at h
    rw [Bool.and_eq_true] at h
    obtain ⟨h1, h2⟩ := h
    have z := mE_ok e G t _ h1
    have e0 : es = .nil := by cases es with | nil => rfl | cons _ _ => cases h2
    subst e0
    intro pos
    cases t with
    | false => exact ⟨snd_and1 z, snd_or1 z⟩
    | true => exact ⟨snd_tand1 z, snd_tor1 z⟩
  | .cons e es, X, c, G, t, e' :: f' :: r, h => by
    unfold mAO at h
    rw [Bool.and_eq_true] at h
    obtain ⟨h1, h2⟩ := h
    have z := mE_ok e G t _ h1
    have w := mAO_ok es G t _ h2
    cases es with
    | nil => unfold mAO at h2; cases h2
    | cons f fs =>
      intro pos
      obtain ⟨w1, w2⟩ := w pos
      cases t with
      | false => exact ⟨snd_and z w1, snd_or z w2⟩
      | true => exact ⟨snd_tand z w1, snd_tor z w2⟩
theorem mCs_ok {T : Sta} {I : SI} {C : Cfg} {P : Phi} {k : Nat} : ∀ (e : CEs) {X : Cx} {c : Ct} (G : Gd T I C P k X c) (l : List Expr), mCs I c e l = true → PTs X l (tCs T C P e)
  | .nil, X, c, G, [], h => snd_cs_nil
  | .nil, X, c, G, _ :: _, h => by unfold mCs at h; cases h
  | .cons e es, X, c, G, [], h => by unfold mCs at h; cases h
  | .cons e es, X, c, G, [e'], h => by
    unfold mCs at h
    rw [Bool.and_eq_true] at h
    obtain ⟨h1, h2⟩ := h
    have z := mE_ok e G true _ h1
    have e0 : es = .nil := by cases es with | nil => rfl | cons _ _ => cases h2
    subst e0
    exact snd_cs_one z
  | .cons e es, X, c, G, _ :: _ :: _, h => by unfold mCs at h; cases h
theorem mF_ok {T : Sta} {I : SI} {C : Cfg} {P : Phi} {k : Nat} : ∀ (f : FE) {X : Cx} {c : Ct} (G : Gd T I C P k X c) (e' : Expr), mF I c f e' = true → PE X e' (tF T C P f) ∧ plainT e' = true
  | .disp es, X, c, G, e', h => by
    unfold mF at h
    split at h
    · simp only [Bool.and_eq_true, decide_eq_true_eq] at h
      obtain ⟨z1, z2, z3⟩ := mEs_ok es G _ h.2
      exact ⟨snd_disp z1 (Nat.le_of_lt (small1000 h.1)) fun env u u1 ds e => (lenEs_ok C P es env u u1 ds e).trans z2, rfl⟩
    · cases h
  | .cat a b, X, c, G, e', h => by
    unfold mF at h
    split at h
    · simp only [Bool.and_eq_true] at h
      exact ⟨snd_cat (mO_ok a G _ h.1) (mO_ok b G _ h.2), rfl⟩
    · cases h
  | .lc elt vs tg it cs, X, c, G, e', h => by
    unfold mF at h
    split at h
    · simp only [Bool.and_eq_true, List.all_eq_true] at h
      obtain ⟨⟨⟨⟨⟨⟨⟨h1, h2⟩, h3⟩, h4⟩, h5⟩, h6⟩, h7⟩, h8⟩ := h
      have bk := blkB_of G h1
      refine ⟨?_, rfl⟩
      rename_i elt2 tg2 iter2 ifs2 scope2 pos2
      have z := snd_lc (T := T) (C := C) (P := P) (pos := pos2) (e := elt) (t := tg) (it := it) (cs := cs) G.calm (by rw [G.hN]; exact G.nd) (mI_ok it G _ _ h5) bk
        (fun s H Ca cl fp => mT_ok tg (G.sub s H _ cl Ca fp) _ h6) (fun s H Ca cl fp => mCs_ok cs (G.sub s H _ cl Ca fp) _ h7) (fun s H Ca cl fp => mE_ok elt (G.sub s H _ cl Ca fp) false _ h8) h2 h3
        (by rw [ownOf_snd]; exact fun i hi => List.contains_iff_mem.mp (h4 i hi))
      rw [ownOf_snd] at z
      exact z
    · cases h
  | .lst o, X, c, G, e', h => by
    unfold mF at h
    split at h
    · simp only [Bool.and_eq_true] at h
      obtain ⟨rfl, g1, g2⟩ := G.blt h.1.1
      exact ⟨snd_lst G.hK g1 (g2 (by decide)) (mO_ok o G _ h.2) h.1.2, rfl⟩
    · cases h
  | .lstR it, X, c, G, e', h => by
    unfold mF at h
    split at h
    · simp only [Bool.and_eq_true] at h
      obtain ⟨⟨⟨h1, h2⟩, h3⟩, h4⟩ := h
      obtain ⟨rfl, g1, g2⟩ := G.blt h1
      obtain ⟨rfl, g3, g4⟩ := G.blt h2
      exact ⟨snd_lstR1 G.calm g1 (g2 (by decide)) g3 (g4 (by decide)) (mE_ok _ G false _ h4) h3, rfl⟩
    · simp only [Bool.and_eq_true] at h
      obtain ⟨⟨⟨⟨⟨h1, h2⟩, h3⟩, h3'⟩, h4⟩, h5⟩ := h
      obtain ⟨rfl, g1, g2⟩ := G.blt h1
      obtain ⟨rfl, g3, g4⟩ := G.blt h2
      exact ⟨snd_lstR2 G.calm g1 (g2 (by decide)) g3 (g4 (by decide)) (mE_ok _ G false _ h4) h3 (mE_ok _ G false _ h5) h3', rfl⟩
    · cases h
  | .sorted o, X, c, G, e', h => by
    unfold mF at h
    split at h
    · simp only [Bool.and_eq_true] at h
      obtain ⟨rfl, g1, g2⟩ := G.blt h.1.1
      exact ⟨snd_sorted G.hK g1 (g2 (by decide)) (mO_ok o G _ h.2) h.1.2, rfl⟩
    · cases h
  | .rep a n, X, c, G, e', h => by
    unfold mF at h
    split at h
    · simp only [Bool.and_eq_true] at h
      exact ⟨snd_rep (mO_ok a G _ h.1) (mE_ok n G false _ h.2), rfl⟩
    · cases h
  | .sl a lo hi, X, c, G, e', h => by
    unfold mF at h
    split at h
    · simp only [Bool.and_eq_true] at h
      exact ⟨snd_slF G.hK (mO_ok a G _ h.1.1) (mB_ok lo G _ h.1.2) (mB_ok hi G _ h.2), rfl⟩
    · cases h
  | .rev a, X, c, G, e', h => by
    unfold mF at h
    split at h
    · exact ⟨snd_revF G.hK (mO_ok a G _ h), rfl⟩
    · cases h
theorem mI_ok {T : Sta} {I : SI} {C : Cfg} {P : Phi} {k : Nat} : ∀ (it : It) {X : Cx} {c : Ct} (G : Gd T I C P k X c) (tg e' : Expr), mI I c it tg e' = true → PI X tg e' (tI T C P it)
  | .seq o, X, c, G, tg, e', h => by
    unfold mI at h
    cases o with
    | v e =>
      have h : mO I c (.v e) e' = true := h
      unfold mO at h
      exact snd_i_v G.hK (mE_ok e G false _ h)
    | bor i =>
      have h : mO I c (.bor i) e' = true := h
      unfold mO at h
      split at h
      · obtain ⟨h1, h2, h3, h4⟩ := G.see h
        exact snd_i_b h1 h2 h3 h4
      · cases h
  | .rng1 a, X, c, G, tg, e', h => by
    unfold mI at h
    split at h
    · simp only [Bool.and_eq_true] at h
      obtain ⟨rfl, g1, g2⟩ := G.blt h.1.1
      exact snd_i_r1 g1 (g2 (by decide)) (mE_ok a G false _ h.2) h.1.2
    · cases h
  | .rng2 a b, X, c, G, tg, e', h => by
    unfold mI at h
    split at h
    · simp only [Bool.and_eq_true] at h
      obtain ⟨⟨⟨⟨h1, h2⟩, h3⟩, h4⟩, h5⟩ := h
      obtain ⟨rfl, g1, g2⟩ := G.blt h1
      exact snd_i_r2 g1 (g2 (by decide)) (mE_ok a G false _ h4) h2 (mE_ok b G false _ h5) h3
    · cases h
  | .enm a j, X, c, G, tg, e', h => by
    unfold mI at h
    split at h
    · simp only [Bool.and_eq_true] at h
      obtain ⟨rfl, g1, g2⟩ := G.blt h.1.1
      exact snd_i_enm1 G.hK g1 (g2 (by decide)) (mE_ok a G false _ h.2) h.1.2
    · simp only [Bool.and_eq_true, decide_eq_true_eq] at h
      obtain ⟨⟨⟨h1, h2⟩, h3⟩, rfl⟩ := h
      obtain ⟨rfl, g1, g2⟩ := G.blt h1
      exact snd_i_enm2 G.hK g1 (g2 (by decide)) (mE_ok a G false _ h3) h2 snd_int rfl
    · cases h
  | .zip a b, X, c, G, tg, e', h => by
    unfold mI at h
    split at h
    · simp only [Bool.and_eq_true] at h
      obtain ⟨⟨⟨⟨h1, h2⟩, h3⟩, h4⟩, h5⟩ := h
      obtain ⟨rfl, g1, g2⟩ := G.blt h1
      exact snd_i_zip G.hK g1 (g2 (by decide)) (mE_ok a G false _ h4) h2 (mE_ok b G false _ h5) h3
    · cases h
theorem mT_ok {T : Sta} {I : SI} {C : Cfg} {P : Phi} {k : Nat} : ∀ (t : Tg) {X : Cx} {c : Ct} (G : Gd T I C P k X c) (e' : Expr), mT c t e' = true → PG X e' (tGp T C P t)
  | .nm i, X, c, G, e', h => by
    unfold mT at h
    split at h
    · obtain ⟨h1, h2, h3⟩ := G.put h
      exact snd_t_nm (by rw [G.hN]; exact G.nd) h1 h2 h3
    · cases h
  | .tp ts, X, c, G, e', h => by
    unfold mT at h
    split at h
    · obtain ⟨z1, z2, z3⟩ := mTs_ok ts G _ h
      exact snd_t_tp G.calm G.hK z1 z2 z3
    · cases h
  | .ix _ _, X, c, G, e', h => by unfold mT at h; cases h
theorem mTs_ok {T : Sta} {I : SI} {C : Cfg} {P : Phi} {k : Nat} : ∀ (t : Tgs) {X : Cx} {c : Ct} (G : Gd T I C P k X c) (l : List Expr), mTs c t l = true → PGs X l (tGps T C P t) ∧ l.all notStar = true ∧ lenTs t = l.length
  | .nil, X, c, G, [], h => ⟨snd_t_nil, rfl, rfl⟩
  | .nil, X, c, G, _ :: _, h => by unfold mTs at h; cases h
  | .cons _ _, X, c, G, [], h => by unfold mTs at h; cases h
  | .cons t ts, X, c, G, e' :: l, h => by
    unfold mTs at h
    simp only [Bool.and_eq_true] at h
    obtain ⟨z1, z2, z3⟩ := mTs_ok ts G l h.2
    refine ⟨snd_t_cons (fun d env u u1 env1 e => ?_) (mT_ok t G _ h.1.2) z1 h.1.1, by rw [List.all_cons, h.1.1, z2]; rfl, congrArg (· + 1) z3⟩
    exact pureT_ok C P t (mT_pure t h.1.2) d env u u1 env1 e
theorem mT_pure {c : Ct} : ∀ (t : Tg) {e' : Expr}, mT c t e' = true → pureT t = true
  | .nm i, e', h => rfl
  | .tp ts, e', h => by
    unfold mT at h
    split at h
    · exact mTs_pure ts h
    · cases h
  | .ix _ _, e', h => by unfold mT at h; cases h
theorem mTs_pure {c : Ct} : ∀ (t : Tgs) {l : List Expr}, mTs c t l = true → pureTs t = true
  | .nil, l, h => rfl
  | .cons t ts, [], h => by unfold mTs at h; cases h
  | .cons t ts, e' :: l, h => by
    unfold mTs at h
    simp only [Bool.and_eq_true] at h
    show (pureT t && pureTs ts) = true
    rw [mT_pure t h.1.2, mTs_pure ts h.2]; rfl
end
end Lv

end Part_Lev10

section Part_Lev11
set_option maxRecDepth 100000
set_option maxHeartbeats 4000000
/-! Lev11: the checker of statements, and that it is right. -/
namespace Lv
open PySem PySem.Spec PyProof.Rows L2

def noComp : Expr → Bool
  | .ListComp .. => false
  | .SetComp .. => false
  | .DictComp .. => false
  | _ => true
def notName : Expr → Bool
  | .Name .. => false
  | _ => true
def noPair : Expr → Expr → Bool
  | .Tuple .., .Tuple .. => false
  | .List .., .Tuple .. => false
  | _, _ => true
/-- the names that a pair's stores swap -/
def swNames (sc : Scope) (ts vs : List Expr) : Option (Option (List Str)) :=
  if !(ts.length == 2 || ts.length == 3) || vs.length != ts.length || ScopeKind.function != ScopeKind.function then some none
  else if vs.any fun | .Starred .. => true | _ => false then some none
  else
    let line := (ts.head?.map (·.pos.line)).getD 0
    let names := ts.filterMap fun
      | .Name id pos => if sc.names.lookup id == some .local && pos.line == line then some id else none
      | _ => none
    if names.length != ts.length || names.eraseDups.length != names.length then some none
    else if vs.all (foldedForSure 8) then some none
    else if vs.all (constantsAlone 8) then none
    else some (some names)
theorem swNames_ok {sc : Scope} {ts vs : List Expr} {k1 k2 : Nat} {p1 p2 : Pos} {env : PySem.Env} {r : Option (List Str)} (hs : env.scope = sc) (hk : sc.kind = .function) (h : swNames sc ts vs = some r) : swappedStores [.Tuple ts k1 p1] (.Tuple vs k2 p2) env = pure r := by
  subst hs
  have hb : env.blockKind = .function := by unfold Env.blockKind; rw [hk]; rfl
  have hkd : ∀ id, env.kindOf id = env.scope.names.lookup id := fun _ => rfl
  unfold swNames at h
  unfold swappedStores
  simp only [hb, hkd]
  dsimp only at h
  split at h
  · rename_i c
    cases h
    rw [if_pos c]
  · rename_i c
    rw [if_neg c]
    split at h
    · rename_i c2
      cases h
      exact if_pos c2
    · rename_i c2
      refine (if_neg c2).trans ?_
      split at h
      · rename_i c3
        cases h
        exact if_pos c3
      · rename_i c3
        refine (if_neg c3).trans ?_
        split at h
        · rename_i c4
          cases h
          exact if_pos c4
        · rename_i c4
          refine (if_neg c4).trans ?_
          split at h
          · cases h
          · rename_i c5
            cases h
            exact if_neg c5
theorem sw_no {e : Expr} {t : Option Expr} {l : Nat} {env : PySem.Env} (h : noComp e = true) : swapsWith e t l env = pure false := by
  cases e <;> first | rfl | cases h
theorem sw_no2 {e t : Expr} {l : Nat} {env : PySem.Env} (h : notName t = true) : swapsWith e (some t) l env = pure false := by
  cases e <;> first | rfl | (cases t <;> first | rfl | cases h)
theorem st_no {t e : Expr} {env : PySem.Env} (h : noPair t e = true) : swappedStores [t] e env = pure none := by
  cases t <;> first | rfl | (cases e <;> first | rfl | cases h)

mutual
def mG (I : SI) (c : Ct) : Tg → Expr → Bool
  | .nm i, e' => match e' with
    | .Name x _ => putB c i x
    | _ => false
  | .tp ts, e' => match e' with
    | .Tuple l _ _ => mGs I c ts l
    | _ => false
  | .ix i e, e' => match e' with
    | .Subscript (.Name x _) i' _ => seeB c i x && plainIx i' && mE I c e false i'
    | _ => false
def mGs (I : SI) (c : Ct) : Tgs → List Expr → Bool
  | .nil, [] => true
  | .cons t ts, e' :: l => notStar e' && mG I c t e' && mGs I c ts l
  | _, _ => false
end
def mPs (I : SI) (c : Ct) : Prs → List Expr → Bool
  | .nil, [] => true
  | .val (.nm i) e r, e' :: l => notStar e' && mE I c e false e' && mPs I c r l
  | .own i f r, e' :: l => notStar e' && mF I c f e' && mPs I c r l
  | _, _ => false
def parB (I : SI) (c : Ct) (ps : Prs) (ts vs : List Expr) : Bool := match ts, vs, slotsP ps with
  | [.Name x px, .Name y py], [a, b], [i, j] => decide (swNames c.sc [.Name x px, .Name y py] [a, b] = some (some [x, y])) && decide (c.N[i]? = some x) && decide (c.N[j]? = some y) && decide (i ≠ j) && decide (c.sc.names.lookup x = some .local) && decide (c.sc.names.lookup y = some .local) && mPs I c ps [a, b]
  | [.Name x px, .Name y py, .Name z pz], [a, b, d], [i, j, l] => decide (swNames c.sc [.Name x px, .Name y py, .Name z pz] [a, b, d] = some (some [x, y, z])) && decide (c.N[i]? = some x) && decide (c.N[j]? = some y) && decide (c.N[l]? = some z) && decide (i ≠ j) && decide (i ≠ l) && decide (j ≠ l) &&
    decide (c.sc.names.lookup x = some .local) && decide (c.sc.names.lookup y = some .local) && decide (c.sc.names.lookup z = some .local) && mPs I c ps [a, b, d]
  | _, _, _ => false
def asgB (I : SI) (c : Ct) (t : Tg) (e : CE) (tg e' : Expr) : Bool :=
  notStar tg && (noComp e' || notName tg) && (noPair tg e' || (match tg, e' with | .Tuple ts _ _, .Tuple vs _ _ => decide (swNames c.sc ts vs = some none) | _, _ => false)) && mG I c t tg && mE I c e false e'
def setB (I : SI) (c : Ct) (i : Nat) (f : FE) (tg e' : Expr) : Bool := match tg with
  | .Name x _ => putB c i x && mF I c f e'
  | _ => false
def isFrz : CS → Bool
  | .frz _ => true
  | _ => false
mutual
def mS (I : SI) (c : Ct) : CS → Stmt → Bool
  | .asg t e, st => match st with
    | .Assign [tg] e' _ => (match t, e with
      | .nm i, .fr f => setB I c i f tg e'
      | _, _ => false) || asgB I c t e tg e'
    | _ => false
  | .own i f, st => match st with
    | .Assign [tg] e' _ => setB I c i f tg e'
    | _ => false
  | .par ps, st => match st with
    | .Assign [.Tuple ts _ _] (.Tuple vs _ _) _ => parB I c ps ts vs
    | _ => false
  | .expr e, st => match st with
    | .Expr e' _ => noComp e' && mE I c e false e'
    | _ => false
  | .app i e, st => match st with
    | .Expr (.Call (.Attribute (.Name x _) a apos) [e'] [] cpos) _ => decide (a = Str.ofString "append") && seeB c i x && notStar e' && mE I c e false e' && (apos.endLine == cpos.line)
    | _ => false
  | .ext i o, st => match st with
    | .Expr (.Call (.Attribute (.Name x _) a apos) [e'] [] cpos) _ => decide (a = Str.ofString "extend") && seeB c i x && notStar e' && mO I c o e' && (apos.endLine == cpos.line)
    | _ => false
  | .ins i k e, st => match st with
    | .Expr (.Call (.Attribute (.Name x _) a apos) [k', e'] [] cpos) _ => decide (a = Str.ofString "insert") && seeB c i x && notStar k' && notStar e' && mE I c k false k' && mE I c e false e' && (apos.endLine == cpos.line)
    | _ => false
  | .ret e, st => match st with
    | .Return (some e') _ => mE I c e false e'
    | _ => false
  | .retN, st => match st with
    | .Return none _ => true
    | _ => false
  | .ifs k a b, st => match st with
    | .If k' a' b' _ => mE I c k true k' && mSs I c a a' && mSs I c b b'
    | _ => false
  | .for_ t it b, st => match st with
    | .For tg iter body [] _ => noBor it && notSet iter && mT c t tg && mI I c it tg iter && mSs I c b body
    | _ => false
  | .whl k b, st => match st with
    | .While k' body [] _ => mE I c k true k' && mSs I c b body
    | _ => false
  | .raise _, st => true
  | .pass, st => match st with
    | .Pass _ => true
    | .Expr (.Constant (.str _) _ _) _ => true
    | _ => false
  | .brk, st => match st with
    | .Break _ => true
    | _ => false
  | .cnt, st => match st with
    | .Continue _ => true
    | _ => false
  | .frz _, st => false
def mSs (I : SI) (c : Ct) : CSs → List Stmt → Bool
  | .nil, [] => true
  | .nil, _ :: _ => false
  | .cons s ss, l => if isFrz s then mSs I c ss l else match l with
    | [] => false
    | st :: r => mS I c s st && mSs I c ss r
end
section
variable {T : Sta} {I : SI} {C : Cfg} {P : Phi} {k : Nat}
mutual
theorem mG_ok : ∀ (t : Tg) {X : Cx} {c : Ct} (G : Gd T I C P k X c) (e' : Expr), mG I c t e' = true → PG X e' (tGs T C P t)
  | .nm i, X, c, G, e', h => by
    unfold mG at h
    split at h
    · obtain ⟨h1, h2, h3⟩ := G.put h
      exact snd_g_nm (by rw [G.hN]; exact G.nd) h1 h2 h3
    · cases h
  | .tp ts, X, c, G, e', h => by
    unfold mG at h
    split at h
    · obtain ⟨z1, z2, z3⟩ := mGs_ok ts G _ h
      exact snd_g_tp G.calm G.hK z1 z2 z3
    · cases h
  | .ix i e, X, c, G, e', h => by
    unfold mG at h
    split at h
    · simp only [Bool.and_eq_true] at h
      obtain ⟨h1, h2, h3, h4⟩ := G.see h.1.1
      exact snd_g_ix h1 h2 h3 h4 (mE_ok e G false _ h.2) h.1.2
    · cases h
theorem mGs_ok : ∀ (t : Tgs) {X : Cx} {c : Ct} (G : Gd T I C P k X c) (l : List Expr), mGs I c t l = true → PGs X l (tGss T C P t) ∧ l.all notStar = true ∧ lenTs t = l.length
  | .nil, X, c, G, [], h => ⟨snd_g_nil, rfl, rfl⟩
  | .nil, X, c, G, _ :: _, h => by unfold mGs at h; cases h
  | .cons _ _, X, c, G, [], h => by unfold mGs at h; cases h
  | .cons t ts, X, c, G, e' :: l, h => by
    unfold mGs at h
    simp only [Bool.and_eq_true] at h
    obtain ⟨z1, z2, z3⟩ := mGs_ok ts G l h.2
    exact ⟨snd_g_cons (mG_ok t G _ h.1.2) z1 h.1.1, by rw [List.all_cons, h.1.1, z2]; rfl, congrArg (· + 1) z3⟩
end
theorem mPs_ok : ∀ (ps : Prs) {X : Cx} {c : Ct} (G : Gd T I C P k X c) (l : List Expr), mPs I c ps l = true → PA X l (tPs T C P ps)
  | .nil, X, c, G, [], h => snd_p_nil
  | .nil, X, c, G, _ :: _, h => by unfold mPs at h; cases h
  | .val (.nm i) e r, X, c, G, [], h => by unfold mPs at h; cases h
  | .val (.tp _) e r, X, c, G, l, h => by cases l <;> (unfold mPs at h; cases h)
  | .val (.ix _ _) e r, X, c, G, l, h => by cases l <;> (unfold mPs at h; cases h)
  | .own i f r, X, c, G, [], h => by unfold mPs at h; cases h
  | .val (.nm i) e r, X, c, G, e' :: l, h => by
    unfold mPs at h
    simp only [Bool.and_eq_true] at h
    exact snd_p_val (mE_ok e G false _ h.1.2) (mPs_ok r G l h.2) h.1.1
  | .own i f r, X, c, G, e' :: l, h => by
    unfold mPs at h
    simp only [Bool.and_eq_true] at h
    exact snd_p_own (mF_ok f G _ h.1.2).1 (mPs_ok r G l h.2) h.1.1
theorem swapsWith_lc {elt : Expr} {gs : List Comprehension} {scope : Scope} {p py : Pos} {y : Str} {l : Nat} {env : PySem.Env} :
    swapsWith (.ListComp elt gs scope p) (some (.Name y py)) l env = pure (env.blockKind == .function && env.kindOf y == some .local && py.line == p.line && !(scope.names.any fun (n, k) => n == y && (k == .local || k == .cell))) := rfl
theorem setF_ok {X : Cx} {c : Ct} (G : Gd T I C P k X c) {i : Nat} {x : Str} {p pos : Pos} {f : FE} {e' : Expr} (hx : putB c i x = true) (h : mF I c f e' = true) : PS X (.Assign [.Name x p] e' pos) (tAsg (tF T C P f) (gName i)) := by
  obtain ⟨h1, h2, h3⟩ := G.put hx
  have nd : X.N.Nodup := by rw [G.hN]; exact G.nd
  have hf := (mF_ok f G _ h).1
  by_cases hn : noComp e' = true
  · exact ps_set nd h1 h2 hf (sw_no hn) h3
  · cases f with
    | lc elt vs tg it cs =>
      unfold mF at h
      split at h
      · rename_i elt2 tg2 iter2 ifs2 scope2 pos2
        cases hsw : (X.env.blockKind == .function && X.env.kindOf x == some .local && p.line == pos2.line && !(scope2.names.any fun (n, k) => n == x && (k == .local || k == .cell))) with
        | false => exact ps_set nd h1 h2 hf (by rw [swapsWith_lc, hsw]) h3
        | true =>
          have hl : X.env.scope.names.lookup x = some .local := by
            simp only [Bool.and_eq_true] at hsw
            have z := hsw.1.1.2
            have z : (X.env.scope.names.lookup x == some .local) = true := z
            simpa using z
          simp only [Bool.and_eq_true, List.all_eq_true] at h
          obtain ⟨⟨⟨⟨⟨⟨⟨k1, k2⟩, k3⟩, k4⟩, k5⟩, k6⟩, k7⟩, k8⟩ := h
          have z := set_lc (T := T) (C := C) (P := P) (i := i) (y := x) (py := p) (pos := pos2) (spos := pos) (e := elt) (t := tg) (it := it) (cs := cs) G.calm nd h1 hl (by rw [swapsWith_lc, hsw]) (mI_ok it G _ _ k5) (blkB_of G k1)
            (fun s H Ca cl fp => mT_ok tg (G.sub s H _ cl Ca fp) _ k6) (fun s H Ca cl fp => mCs_ok cs (G.sub s H _ cl Ca fp) _ k7) (fun s H Ca cl fp => mE_ok elt (G.sub s H _ cl Ca fp) false _ k8) k2 k3
            (by rw [ownOf_snd]; exact fun i hi => List.contains_iff_mem.mp (k4 i hi))
          rw [ownOf_snd] at z
          exact z
      · cases h
    | _ =>
      exfalso
      unfold mF at h
      first | cases h | (split at h <;> first | exact hn rfl | cases h)
theorem setB_ok {X : Cx} {c : Ct} (G : Gd T I C P k X c) {i : Nat} {pos : Pos} {f : FE} {tg e' : Expr} (h : setB I c i f tg e' = true) : PS X (.Assign [tg] e' pos) (tAsg (tF T C P f) (gName i)) := by
  unfold setB at h
  split at h
  · rw [Bool.and_eq_true] at h
    exact setF_ok G h.1 h.2
  · cases h
theorem asgB_ok {X : Cx} {c : Ct} (G : Gd T I C P k X c) (hk : c.sc.kind = .function) {t : Tg} {e : CE} {pos : Pos} {tg e' : Expr} (h : asgB I c t e tg e' = true) : PS X (.Assign [tg] e' pos) (tS T C P (.asg t e)) := by
  unfold asgB at h
  simp only [Bool.and_eq_true, Bool.or_eq_true] at h
  obtain ⟨⟨⟨⟨h1, h2⟩, h3⟩, h4⟩, h5⟩ := h
  refine snd_s_asg (mE_ok e G false _ h5) (mG_ok t G _ h4) ?_ ?_ h1
  · show swapsWith e' (some tg) pos.line X.env = pure false
    rcases h2 with h2 | h2
    · exact sw_no h2
    · exact sw_no2 h2
  · rcases h3 with h3 | h3
    · exact st_no h3
    · split at h3
      · rw [decide_eq_true_eq] at h3
        exact swNames_ok G.sc hk h3
      · cases h3
theorem parB_ok {X : Cx} {c : Ct} (G : Gd T I C P k X c) (hk : c.sc.kind = .function) {ps : Prs} {ts vs : List Expr} {k1 k2 : Nat} {p1 p2 pos : Pos} (h : parB I c ps ts vs = true) : PS X (.Assign [.Tuple ts k1 p1] (.Tuple vs k2 p2) pos) (tS T C P (.par ps)) := by
  have nd : X.N.Nodup := by rw [G.hN]; exact G.nd
  unfold parB at h
  split at h
  · rename_i x px y py a b i j e
    simp only [Bool.and_eq_true, decide_eq_true_eq] at h
    obtain ⟨⟨⟨⟨⟨⟨h1, h2⟩, h3⟩, h4⟩, h5⟩, h6⟩, h7⟩ := h
    exact snd_s_par2 G.calm nd (by rw [G.hN]; exact h2) (by rw [G.hN]; exact h3) h4 (by rw [G.sc]; exact h5) (by rw [G.sc]; exact h6) (mPs_ok ps G _ h7) e (swNames_ok G.sc hk h1)
  · rename_i x px y py z pz a b d i j l e
    simp only [Bool.and_eq_true, decide_eq_true_eq] at h
    obtain ⟨⟨⟨⟨⟨⟨⟨⟨⟨⟨h1, h2⟩, h3⟩, h4⟩, h5⟩, h6⟩, h7⟩, h8⟩, h9⟩, h10⟩, h11⟩ := h
    exact snd_s_par3 G.calm nd (by rw [G.hN]; exact h2) (by rw [G.hN]; exact h3) (by rw [G.hN]; exact h4) h5 h6 h7 (by rw [G.sc]; exact h8) (by rw [G.sc]; exact h9) (by rw [G.sc]; exact h10) (mPs_ok ps G _ h11) e (swNames_ok G.sc hk h1)
  · cases h
mutual
theorem mS_ok : ∀ (s : CS) {X : Cx} {c : Ct} (G : Gd T I C P k X c) (hk : c.sc.kind = .function) (hp : PassesOwn (model X.prog X.w) X.A X.env X.xe) (st : Stmt), mS I c s st = true → PS X st (tS T C P s)
  | .asg t e, X, c, G, hk, hp, st, h => by
    unfold mS at h
    split at h
    · rw [Bool.or_eq_true] at h
      rcases h with h | h
      · split at h
        · exact (setB_ok G h).weak fun D σ H h => asgF_tr h
        · cases h
      · exact asgB_ok G hk h
    · cases h
  | .own i f, X, c, G, hk, hp, st, h => by
    unfold mS at h
    split at h
    · exact (setB_ok G h).weak fun D σ H h => own_tr h
    · cases h
  | .par ps, X, c, G, hk, hp, st, h => by
    unfold mS at h
    split at h
    · exact parB_ok G hk h
    · cases h
  | .expr e, X, c, G, hk, hp, st, h => by
    unfold mS at h
    split at h
    · rw [Bool.and_eq_true] at h
      exact snd_s_expr (mE_ok e G false _ h.2) (sw_no h.1)
    · cases h
  | .app i e, X, c, G, hk, hp, st, h => by
    unfold mS at h
    split at h
    · simp only [Bool.and_eq_true, decide_eq_true_eq] at h
      obtain ⟨⟨⟨⟨rfl, h2⟩, h3⟩, h4⟩, h5⟩ := h
      obtain ⟨k1, k2, k3, k4⟩ := G.see h2
      exact snd_s_app k1 k2 k3 k4 (mE_ok e G false _ h4) h3 h5
    · cases h
  | .ext i o, X, c, G, hk, hp, st, h => by
    unfold mS at h
    split at h
    · simp only [Bool.and_eq_true, decide_eq_true_eq] at h
      obtain ⟨⟨⟨⟨rfl, h2⟩, h3⟩, h4⟩, h5⟩ := h
      obtain ⟨k1, k2, k3, k4⟩ := G.see h2
      exact snd_s_ext k1 k2 k3 k4 (mO_ok o G _ h4) h3 h5
    · cases h
  | .ins i a e, X, c, G, hk, hp, st, h => by
    unfold mS at h
    split at h
    · simp only [Bool.and_eq_true, decide_eq_true_eq] at h
      obtain ⟨⟨⟨⟨⟨⟨rfl, h2⟩, h3⟩, h3'⟩, h4⟩, h4'⟩, h5⟩ := h
      obtain ⟨k1, k2, k3, k4⟩ := G.see h2
      exact snd_s_ins k1 k2 k3 k4 (mE_ok a G false _ h4) h3 (mE_ok e G false _ h4') h3' h5
    · cases h
  | .ret e, X, c, G, hk, hp, st, h => by
    unfold mS at h
    split at h
    · exact snd_s_ret (mE_ok e G false _ h)
    · cases h
  | .retN, X, c, G, hk, hp, st, h => by
    unfold mS at h
    split at h
    · exact snd_s_retN
    · cases h
  | .ifs q a b, X, c, G, hk, hp, st, h => by
    unfold mS at h
    split at h
    · simp only [Bool.and_eq_true] at h
      exact snd_s_if (mE_ok q G true _ h.1.1) (mSs_ok a G hk hp _ h.1.2) (mSs_ok b G hk hp _ h.2)
    · cases h
  | .for_ t it b, X, c, G, hk, hp, st, h => by
    unfold mS at h
    split at h
    · simp only [Bool.and_eq_true] at h
      obtain ⟨⟨⟨⟨h1, h2⟩, h3⟩, h4⟩, h5⟩ := h
      exact snd_s_for hp G.calm (mI_ok it G _ _ h4) h1 (mT_ok t G _ h3) (mT_pure t h3) (mSs_ok b G hk hp _ h5) h2
    · cases h
  | .whl q b, X, c, G, hk, hp, st, h => by
    unfold mS at h
    split at h
    · simp only [Bool.and_eq_true] at h
      exact snd_s_while hp (mE_ok q G true _ h.1) (mSs_ok b G hk hp _ h.2)
    · cases h
  | .raise _, X, c, G, hk, hp, st, h => snd_s_raise
  | .pass, X, c, G, hk, hp, st, h => by
    unfold mS at h
    split at h
    · exact snd_s_pass
    · exact snd_s_doc
    · cases h
  | .brk, X, c, G, hk, hp, st, h => by
    unfold mS at h
    split at h
    · exact snd_s_brk
    · cases h
  | .cnt, X, c, G, hk, hp, st, h => by
    unfold mS at h
    split at h
    · exact snd_s_cnt
    · cases h
  | .frz _, X, c, G, hk, hp, st, h => by unfold mS at h; cases h
theorem mSs_ok : ∀ (s : CSs) {X : Cx} {c : Ct} (G : Gd T I C P k X c) (hk : c.sc.kind = .function) (hp : PassesOwn (model X.prog X.w) X.A X.env X.xe) (l : List Stmt), mSs I c s l = true → PSs X l (tSs T C P s)
  | .nil, X, c, G, hk, hp, [], h => snd_ss_nil
  | .nil, X, c, G, hk, hp, _ :: _, h => by unfold mSs at h; cases h
  | .cons s ss, X, c, G, hk, hp, l, h => by
    unfold mSs at h
    by_cases hf : isFrz s = true
    · rw [if_pos hf] at h
      obtain ⟨i, rfl⟩ : ∃ i, s = .frz i := by cases s <;> first | exact ⟨_, rfl⟩ | cases hf
      exact snd_ss_frz (mSs_ok ss G hk hp l h)
    · rw [if_neg hf] at h
      cases l with
      | nil => cases h
      | cons st r =>
        have h : (mS I c s st && mSs I c ss r) = true := h
        rw [Bool.and_eq_true] at h
        exact snd_ss_cons (mS_ok s G hk hp st h.1) (mSs_ok ss G hk hp r h.2)
end
end
end Lv

end Part_Lev11

section Part_Lev12
set_option maxRecDepth 100000
set_option maxHeartbeats 4000000
/-! Lev12: all defs of a text keep the promises of the small language; the law's end. -/
namespace Lv
open PySem PySem.Spec PyProof.Rows L2
def plainA (a : Arguments) : Bool := a.posonlyargs.isEmpty && a.vararg.isNone && a.kwonlyargs.isEmpty && a.kwarg.isNone
theorem lookup_some : ∀ {ps : List Str} {us : List Value} {x : Str}, x ∈ ps → us.length = ps.length → ((ps.zip us).lookup x).isNone = false
  | [], _, _, h, _ => by cases h
  | p :: ps, [], _, _, hl => by cases hl
  | p :: ps, u :: us, x, h, hl => by
    rw [List.zip_cons_cons, List.lookup_cons]
    cases q : x == p with
    | true => rfl
    | false =>
      rcases List.mem_cons.mp h with e | h
      · subst e; simp at q
      · exact lookup_some h (by simpa using hl)
theorem fm_zip : ∀ {ps : List Str} {us : List Value}, ps.Nodup → us.length = ps.length → (ps.filterMap fun n => ((ps.zip us).lookup n).map (n, ·)) = ps.zip us := by
  intro ps us hn hl
  have key : ∀ (qs : List Str) (ws : List Value), (∀ x ∈ qs, x ∈ ps) → qs.length = ws.length → (∀ p ∈ qs.zip ws, (ps.zip us).lookup p.1 = some p.2) → (qs.filterMap fun n => ((ps.zip us).lookup n).map (n, ·)) = qs.zip ws := by
    intro qs
    induction qs with
    | nil => intro ws _ _ _; rfl
    | cons q qs ih =>
      intro ws h1 h2 h3
      cases ws with
      | nil => cases h2
      | cons w ws =>
        have e := h3 (q, w) (by simp)
        rw [List.filterMap_cons]
        have e2 : (ps.zip us).lookup q = some w := e
        rw [e2]
        show (q, w) :: _ = (q, w) :: qs.zip ws
        rw [ih ws (fun x hx => h1 x (List.mem_cons_of_mem _ hx)) (by simpa using h2) fun p hp => h3 p (by simp [List.zip_cons_cons, hp])]
  refine key ps us (fun x h => h) hl.symm ?_
  clear key
  induction ps generalizing us with
  | nil => intro p hp; simp at hp
  | cons x ps ih =>
    cases us with
    | nil => intro p hp; simp at hp
    | cons u us =>
      intro p hp
      rw [List.zip_cons_cons] at hp ⊢
      rcases List.mem_cons.mp hp with rfl | hp
      · simp [List.lookup_cons]
      · rw [List.lookup_cons]
        have hx : (p.1 == x) = false := by
          have : p.1 ∈ ps := (List.of_mem_zip hp).1
          have hne : p.1 ≠ x := fun e => (List.nodup_cons.mp hn).1 (e ▸ this)
          simpa using hne
        rw [hx]
        exact ih (List.nodup_cons.mp hn).2 (by simpa using hl) p hp
theorem bind_plain {fd : FuncData} (h : plainA fd.params = true) (hd : fd.defaults = .none) (hn : (fd.params.args.map (·.arg)).Nodup) (us : List Value) (hl : us.length = (fd.params.args.map (·.arg)).length) : bindArgs fd ⟨us, []⟩ = pure ((fd.params.args.map (·.arg)).zip us) := by
  unfold plainA at h
  simp only [Bool.and_eq_true, List.isEmpty_iff, Option.isNone_iff_eq_none] at h
  obtain ⟨⟨⟨h1, h2⟩, h3⟩, h4⟩ := h
  have hm : ((fd.params.args.map (·.arg)).filter fun n => (((fd.params.args.map (·.arg)).zip us).lookup n).isNone) = [] := by
    rw [List.filter_eq_nil_iff]
    intro a ha
    rw [lookup_some ha hl]
    exact Bool.false_ne_true
  have hf := fm_zip (ps := fd.params.args.map (·.arg)) hn hl
  have e0 : notAStandIn .none = pure () := rfl
  unfold bindArgs
  simp only [h1, h2, h3, h4, hd, List.map_nil, List.nil_append, List.forIn_nil, pure_bind, seqItems?, List.length_nil, hl, e0, Option.getD_none]
  have e1 : ∀ (n : Nat), List.drop n (#[] : Array Value).toList = [] := fun n => by simp
  simp only [e1, List.length_nil, Nat.sub_zero, List.take_length, hm, List.drop_length, List.zip_nil_left, List.append_nil]
  rw [if_neg (by simp)]
  simp only [pure_bind, List.isEmpty_nil, Bool.not_true, Bool.false_eq_true, if_false, List.forIn_nil]
  exact congrArg pure hf
theorem rl_noOwn {T : Sta} {F H : Hp} {A : List Addr} {Ow : Addr → Option Nat} {u : U} (r : Rl T F A Ow H u) : Rl T F A (fun _ => Option.none) H u := r.noOwn

/-! ### one def -/
theorem start_get {N : List Str} {vs : List V} {i : Nat} {v : V} (h : vs[i]? = some v) : (L2.start N vs)[i]? = some (some v) := by
  unfold L2.start
  rw [List.getElem?_append_left (by rw [List.length_map]; exact (List.getElem?_eq_some_iff.mp h).1), List.getElem?_map, h]
  rfl
theorem startE_en {T : Sta} {F H : Hp} {A : List Addr} {N : List Str} {ds : List D} {vs : List V} (r : Reps T F A ds vs) : En T F A (fun _ => none) (L2.start N vs) H (startE N.length ds) := by
  have hl := r.length
  refine ⟨?_, fun i d h => ?_, fun i es h => ?_⟩
  · unfold L2.start startE
    rw [List.length_append, List.length_append, List.length_map, List.length_map, List.length_replicate, List.length_replicate, hl]
  · unfold startE at h
    by_cases hi : i < ds.length
    · rw [List.getElem?_append_left (by rw [List.length_map]; exact hi), List.getElem?_map] at h
      cases q : ds[i]? with
      | none => rw [q] at h; cases h
      | some d' =>
        rw [q] at h
        cases h
        obtain ⟨v, h1, h2⟩ := r.get q
        exact ⟨v, start_get h1, h2⟩
    · rw [List.getElem?_append_right (by rw [List.length_map]; omega)] at h
      have := List.mem_of_getElem? h
      rw [List.mem_replicate] at this
      cases this.2
  · exfalso
    unfold startE at h
    by_cases hi : i < ds.length
    · rw [List.getElem?_append_left (by rw [List.length_map]; exact hi), List.getElem?_map] at h
      cases q : ds[i]? with
      | none => rw [q] at h; cases h
      | some d' => rw [q] at h; cases h
    · rw [List.getElem?_append_right (by rw [List.length_map]; omega)] at h
      have := List.mem_of_getElem? h
      rw [List.mem_replicate] at this
      cases this.2
/-- a def's promise is what its body does -/
theorem def_start {T : Sta} {C : Cfg} {f : FDef} {fs : List FDef} {k i n : Nat} {vs : List V} {H : Hp} {Q : VK} {E : XK} (hf : fs[i]? = some f) (h : spF T (run C fs (k + 1)) n i vs H Q E) : tSs T C (run C fs k) f.body { nx := fun _ H' => Q .non H', rt := Q } (L2.start f.N vs) H := by
  obtain ⟨hl, F, A, u, ds, rl, r, p⟩ := h
  have e : run C fs (k + 1) i ds u = runF C (run C fs k) f ds u := by
    show (match fs[i]? with | some f => runF C (run C fs k) f ds | none => stuck) u = _
    rw [hf]
  rw [e] at p
  unfold runF at p
  by_cases hlen : ds.length = f.ps.length
  · rw [if_pos hlen] at p
    refine ⟨⟨F, A, H⟩, F, A, fun _ => none, startE f.N.length ds, u, ⟨.refl _ _ _, rl, startE_en r, fun p i h => by cases h⟩, ?_⟩
    revert p
    rcases denSs C (run C fs k) f.body (startE f.N.length ds) u with ⟨o, u1⟩ | ⟨c, a, u1⟩ | _
    · cases o with
      | nxt env =>
        intro p F' A' Ow σ' H' a e
        exact (show Post T (fun _ => none) F A H (.ok .non u1) (RV T) Q from p) .non F' A' H' a.go a.rl.noOwn .non
      | ret d =>
        intro p v F' A' H' g rl' r'
        exact (show Post T (fun _ => none) F A H (.ok d u1) (RV T) Q from p) v F' A' H' g rl' r'
      | brk env => exact fun p => p.elim
      | cnt env => exact fun p => p.elim
    · exact fun p => p
    · exact fun p => p
  · rw [if_neg hlen] at p; exact p.elim
/-- the checks of one def -/
def chkD (I : SI) (f : FDef) (d : He.DefD) : Bool :=
  decide (d.name = f.name) && decide (d.at_ = (f.name, none)) && d.dfl.isEmpty && d.kwd.isEmpty && plainA d.params && decide (d.params.args.map (·.arg) = f.ps) && decide f.ps.Nodup && C8.scC f.N f.ps d.scope && mSs I ⟨f.N, d.scope, none⟩ f.body d.body
def chkAll (I : SI) : List FDef → List He.DefD → Bool
  | [], [] => true
  | f :: fs, d :: ds => chkD I f d && chkAll I fs ds
  | _, _ => false
theorem chkAll_get {I : SI} : ∀ {fs : List FDef} {ds : List He.DefD}, chkAll I fs ds = true → ∀ {i : Nat} {f : FDef}, fs[i]? = some f → ∃ d, ds[i]? = some d ∧ chkD I f d = true
  | [], _, _, _, _, h => by simp at h
  | f :: fs, [], h, _, _, _ => by cases h
  | f :: fs, d :: ds, h, i, g, e => by
    rw [show chkAll I (f :: fs) (d :: ds) = (chkD I f d && chkAll I fs ds) from rfl, Bool.and_eq_true] at h
    cases i with
    | zero => simp at e; subst e; exact ⟨d, rfl, h.1⟩
    | succ i =>
      obtain ⟨d', h1, h2⟩ := chkAll_get h.2 (i := i) (by simpa using e)
      exact ⟨d', by simpa using h1, h2⟩
/-- how a def takes keywords -/
def KwP (d : He.DefD) (ps : List Str) (n : Nat) (ks : List Str) (pm : List Nat) : Prop := ∀ (kV doc pd : Value) (an : Option Addr) (cdv ct : Value) (us ws : List Value), us.length = n → ws.length = ks.length →
  bindArgs (PySem.W.fnOf d.name d.qual d.params d.body d.scope .none kV doc pd an cdv ct) ⟨us, ks.zip ws⟩ = pure (ps.zip (kG n ks.length pm us ws))
def KwAll (I : SI) (C : Cfg) (fs : List FDef) (ds : List He.DefD) : Prop := ∀ (j f n : Nat) (ks : List Str) (pm : List Nat), I.kw[j]? = some (f, n, ks, pm) → C.perm[j]? = some pm ∧ ∀ g d, fs[f]? = some g → ds[f]? = some d → g.ps ≠ [] ∧ KwP d g.ps n ks pm
/-- what the written part gives -/
structure Got (I : SI) (C : Cfg) (fs : List FDef) (ds : List He.DefD) (K : PySem.W.Frag) (mg : Str → Option Value) : Prop where
  fn : ∀ (i : Nat) (d : He.DefD), ds[i]? = some d → ∃ fd, FunD K d.name d.qual d.params d.body d.scope (d.dvs K) (d.kws K) (He.fAd K d.at_) fd
  mgd : ∀ (i : Nat) (f : FDef), fs[i]? = some f → mg f.name = some (.ref (He.fAd K (f.name, none)))
  fr : ∀ b ∈ blts, mg (Str.ofString b) = none
  gcd : I.gcd = true → mg (Str.ofString "gcd") = some (.builtin "math.gcd")
  glb : ∀ (j : Nat) (x : Str), I.gl[j]? = some x → ∃ u v d, mg x = some u ∧ RelV v u ∧ C.glb[j]? = some d ∧ ∀ fnAd F A, Rep ⟨K, fnAd⟩ F A d v
def staOf (K : PySem.W.Frag) (fs : List FDef) : Sta := ⟨K, fun i => match fs[i]? with | some f => some (He.fAd K (f.name, none)) | none => none⟩
theorem staOf_get {K : PySem.W.Frag} {fs : List FDef} {i : Nat} {f : FDef} (h : fs[i]? = some f) : (staOf K fs).fnAd i = some (He.fAd K (f.name, none)) := by
  show (match fs[i]? with | some f => some (He.fAd K (f.name, none)) | none => none) = _
  rw [h]
theorem bind_of {K : PySem.W.Frag} {x qual : Str} {params : Arguments} {body : List Stmt} {scope : Scope} {f : Addr} {fd : FuncData} {ps : List Str} (F : FunD K x qual params body scope [] [] f fd) (h : plainA params = true) (hp : params.args.map (·.arg) = ps) (hn : ps.Nodup) : Binds K fd ps [] ∧ ∀ (s : Shared) (us : List Value), us.length = ps.length → BindsTo s fd ⟨us, []⟩ (ps.zip us) := by
  subst hp
  have key : ∀ (kV doc pm : Value) (an : Option Addr) (cdv ct : Value) (us : List Value), us.length = (params.args.map (·.arg)).length → bindArgs (PySem.W.fnOf x qual params body scope .none kV doc pm an cdv ct) ⟨us, []⟩ = pure ((params.args.map (·.arg)).zip us) := fun kV doc pm an cdv ct us hl =>
    bind_plain (fd := PySem.W.fnOf x qual params body scope .none kV doc pm an cdv ct) h rfl hn us hl
  exact ⟨F.bindsN key, F.bindsA key⟩
theorem kw_of {K : PySem.W.Frag} {d : He.DefD} {f : Addr} {fd : FuncData} {ps ks : List Str} {n : Nat} {pm : List Nat} (F : FunD K d.name d.qual d.params d.body d.scope [] [] f fd) (hne : ps ≠ []) (h : KwP d ps n ks pm) : KBinds K fd ps ks (kG n ks.length pm) (kG n ks.length pm) := by
  obtain ⟨oc, od, dV, kV, doc, pd, an, cdv, ct, osl, rfl, lk, hcd, hD, hK⟩ := F.ex
  rcases hD with ⟨_, rfl⟩ | ⟨e, _⟩
  · refine ⟨fun s us ws X hl => ?_, fun r1 r2 => kG_rel r1 r2⟩
    by_cases hc : us.length = n ∧ ws.length = ks.length
    · exact .of_eq (h kV doc pd an cdv ct us ws hc.1 hc.2)
    · exfalso
      unfold kG at hl
      rw [if_neg hc] at hl
      exact hne (List.length_eq_zero_iff.mp hl.symm)
  · exact absurd rfl e
section
variable {I : SI} {C : Cfg} {fs : List FDef} {ds : List He.DefD}
theorem name_inj {K : PySem.W.Frag} {mg : Str → Option Value} (hc : chkAll I fs ds = true) (g : Got I C fs ds K mg) (hn : (fs.map (·.name)).Nodup) : ∀ f f' a, (staOf K fs).fnAd f = some a → (staOf K fs).fnAd f' = some a → f = f' := by
  have one : ∀ f a, (staOf K fs).fnAd f = some a → ∃ d, fs[f]? = some d ∧ ∃ oc od dV kV doc pm an cdv ct osl q ps b sc, K.lookup a = some ⟨oc, od, .func (PySem.W.fnOf d.name q ps b sc dV kV doc pm an cdv ct), osl⟩ := by
    intro f a h
    cases e : fs[f]? with
    | none =>
      have h : (match fs[f]? with | some f => some (He.fAd K (f.name, none)) | none => none) = some a := h
      rw [e] at h; cases h
    | some d =>
      rw [staOf_get e] at h
      cases h
      obtain ⟨dd, h1, h2⟩ := chkAll_get hc e
      obtain ⟨fd, F⟩ := g.fn f dd h1
      obtain ⟨oc, od, dV, kV, doc, pm, an, cdv, ct, osl, rfl, lk, _⟩ := F.ex
      unfold chkD at h2
      simp only [Bool.and_eq_true, decide_eq_true_eq] at h2
      obtain ⟨⟨⟨⟨⟨⟨⟨⟨k1, k2⟩, k3⟩, k4⟩, k5⟩, k6⟩, k7⟩, k8⟩, k9⟩ := h2
      rw [k2, k1] at lk
      exact ⟨d, rfl, oc, od, dV, kV, doc, pm, an, cdv, ct, osl, _, _, _, _, lk⟩
  intro f f' a h h'
  obtain ⟨d, e, oc, od, dV, kV, doc, pm, an, cdv, ct, osl, q, ps, b, sc, lk⟩ := one f a h
  obtain ⟨d', e', oc', od', dV', kV', doc', pm', an', cdv', ct', osl', q', ps', b', sc', lk'⟩ := one f' a h'
  rw [lk] at lk'
  have en : d.name = d'.name := by
    have z := Option.some.inj lk'
    have z2 : Data.func (PySem.W.fnOf d.name q ps b sc dV kV doc pm an cdv ct) = Data.func (PySem.W.fnOf d'.name q' ps' b' sc' dV' kV' doc' pm' an' cdv' ct') := congrArg Obj.data z
    have z3 := Data.func.inj z2
    exact congrArg FuncData.name z3
  have i1 : (fs.map (·.name))[f]? = some d.name := by rw [List.getElem?_map, e]; rfl
  have i2 : (fs.map (·.name))[f']? = some d.name := by rw [List.getElem?_map, e', en]; rfl
  have hl1 : f < (fs.map (·.name)).length := (List.getElem?_eq_some_iff.mp i1).1
  have hl2 : f' < (fs.map (·.name)).length := (List.getElem?_eq_some_iff.mp i2).1
  have g1 := (List.getElem?_eq_some_iff.mp i1).2
  have g2 := (List.getElem?_eq_some_iff.mp i2).2
  have nd := List.pairwise_iff_getElem.mp hn
  rcases Nat.lt_trichotomy f f' with z | z | z
  · exact absurd (g1.trans g2.symm) (nd f f' hl1 hl2 z)
  · exact z
  · exact absurd (g2.trans g1.symm) (nd f' f hl2 hl1 z)
/-- ALL DEFS, level by level -/
theorem defs_ok {P : Program} {w : World} {K : PySem.W.Frag} {mg : Str → Option Value} (hI : I.fs = fs.map fun f => (f.name, f.ps)) (hc : chkAll I fs ds = true) (hn : (fs.map (·.name)).Nodup) (hkw : KwAll I C fs ds) (g : Got I C fs ds K mg) :
    ∀ (k i : Nat) (f : FDef), fs[i]? = some f → ∃ fd, (∀ bs, FnOk P w K mg bs CX0 k (He.fAd K (f.name, none)) fd f.ps (spF (staOf K fs) (run C fs k) f.ps.length i)) ∧ PySem.W.keepIn K (.ref (He.fAd K (f.name, none))) = true ∧ Binds K fd f.ps [] ∧
      (∀ (s : Shared) (us : List Value), us.length = f.ps.length → BindsTo s fd ⟨us, []⟩ (f.ps.zip us)) ∧
      ∀ (j n : Nat) (ks : List Str) (pm : List Nat), I.kw[j]? = some (i, n, ks, pm) → C.perm[j]? = some pm ∧ KBinds K fd f.ps ks (kG n ks.length pm) (kG n ks.length pm) := by
  have base : ∀ (k i : Nat) (f : FDef), fs[i]? = some f → (∀ fd d, ds[i]? = some d → chkD I f d = true → FunD K d.name d.qual d.params d.body d.scope [] [] (He.fAd K (f.name, none)) fd → ∀ bs, FnOk P w K mg bs CX0 k (He.fAd K (f.name, none)) fd f.ps (spF (staOf K fs) (run C fs k) f.ps.length i)) → ∃ fd, (∀ bs, FnOk P w K mg bs CX0 k (He.fAd K (f.name, none)) fd f.ps (spF (staOf K fs) (run C fs k) f.ps.length i)) ∧ PySem.W.keepIn K (.ref (He.fAd K (f.name, none))) = true ∧ Binds K fd f.ps [] ∧
      (∀ (s : Shared) (us : List Value), us.length = f.ps.length → BindsTo s fd ⟨us, []⟩ (f.ps.zip us)) ∧
      ∀ (j n : Nat) (ks : List Str) (pm : List Nat), I.kw[j]? = some (i, n, ks, pm) → C.perm[j]? = some pm ∧ KBinds K fd f.ps ks (kG n ks.length pm) (kG n ks.length pm) := by
    intro k i f hf hfn
    obtain ⟨d, h1, h2⟩ := chkAll_get hc hf
    obtain ⟨fd, F⟩ := g.fn i d h1
    have h2' := h2
    unfold chkD at h2
    simp only [Bool.and_eq_true, decide_eq_true_eq] at h2
    obtain ⟨⟨⟨⟨⟨⟨⟨⟨k1, k2⟩, k3⟩, k4⟩, k5⟩, k6⟩, k7⟩, k8⟩, k9⟩ := h2
    have F : FunD K d.name d.qual d.params d.body d.scope [] [] (He.fAd K (f.name, none)) fd := by
      have e1 : d.dvs K = [] := by unfold He.DefD.dvs; rw [List.isEmpty_iff.mp k3]; rfl
      have e2 : d.kws K = [] := by unfold He.DefD.kws; rw [List.isEmpty_iff.mp k4]; rfl
      rw [e1, e2, k2] at F
      exact F
    obtain ⟨b1, b2⟩ := bind_of F k5 k6 k7
    refine ⟨fd, hfn fd d h1 h2' F, F.kp, b1, b2, fun j n ks pm e => ?_⟩
    obtain ⟨w1, w2⟩ := hkw j i n ks pm e
    obtain ⟨w3, w4⟩ := w2 f d hf h1
    exact ⟨w1, kw_of F w3 w4⟩
  intro k
  induction k with
  | zero =>
    intro i f hf
    refine base 0 i f hf fun fd d h1 h2 F bs => ?_
    refine ⟨fun vs H Q E h => h.1, fun A outer s H args us vs Q E _ _ _ _ h => ?_⟩
    obtain ⟨_, F', A', u, ds', _, _, p⟩ := h
    exact p.elim
  | succ k ih =>
    intro i f hf
    refine base (k + 1) i f hf fun fd d h1 h2 F bs => ?_
    unfold chkD at h2
    simp only [Bool.and_eq_true, decide_eq_true_eq] at h2
    obtain ⟨⟨⟨⟨⟨⟨⟨⟨k1, k2⟩, k3⟩, k4⟩, k5⟩, k6⟩, k7⟩, k8⟩, k9⟩ := h2
    have S := C8.fnScope_by k8
    refine F.ok S (fun vs H Q E h => h.1) fun cdv A outer s H vs Q E hr h => ⟨tSs (staOf K fs) C (run C fs k) f.body, PSs.nox ?_, def_start hf h⟩
    refine mSs_ok (I := I) (k := k) f.body (c := ⟨f.N, d.scope, none⟩) ?_ S.kind .never d.body k9
    have noF : ∀ (f' : Nat), I.fs[f']? = none → (staOf K fs).fnAd f' = none := fun f' e => by
      rw [hI, List.getElem?_map] at e
      show (match fs[f']? with | some f => some (He.fAd K (f.name, none)) | none => none) = none
      cases q : fs[f']? with
      | none => rfl
      | some g' => rw [q] at e; cases e
    have ari : ∀ (f' : Nat) (x : Str) (ps : List Str), I.fs[f']? = some (x, ps) → ∀ ds u, ds.length ≠ ps.length → run C fs k f' ds u = .bad := fun f' x ps e ds' u hl => by
      rw [hI, List.getElem?_map] at e
      cases q : fs[f']? with
      | none => rw [q] at e; cases e
      | some g' =>
        rw [q] at e
        cases e
        cases k with
        | zero => rfl
        | succ k =>
          show (match fs[f']? with | some f => runF C (run C fs k) f ds' | none => stuck) u = .bad
          rw [q]
          show runF C (run C fs k) g' ds' u = .bad
          unfold runF
          rw [if_neg hl]
    refine { hK := rfl, hN := rfl, sc := rfl, nd := S.nd, calm := rfl, fnv := fun x _ => rfl, defs := fun f' x ps e => ?_, arity := ari, noF := noF, inj := name_inj hc g hn, room := hr, fr := g.fr, gcd := g.gcd, glb := fun j x e => ?_ }
    · rw [hI, List.getElem?_map] at e
      cases q : fs[f']? with
      | none => rw [q] at e; cases e
      | some g' =>
        rw [q] at e
        cases e
        obtain ⟨fd', z1, z2, z3, z4, z5⟩ := ih f' g' q
        exact ⟨_, fd', staOf_get q, g.mgd f' g' q, z1 _, z2, z3, z5⟩
    · obtain ⟨u, v, d', z1, z2, z3, z4⟩ := g.glb j x e
      exact ⟨u, v, d', z1, z2, z3, z4 _⟩
/-- the law's promise: true at every script -/
theorem law_sp {K : PySem.W.Frag} {k i : Nat} {ns : List Int} {H : Hp} {a : Addr} (hs : SqL K H a (ns.map V.int)) (h : ∃ u, run C fs k i [.scr ns] [] = .ok (.bl true) u) : spF (staOf K fs) (run C fs k) 1 i [.ref a] H (fun v _ => v = .bl true) fun _ _ _ => False := by
  obtain ⟨u, h⟩ := h
  refine ⟨rfl, H, [], [], [.scr ns], ⟨fun _ _ h => h, rfl, List.nodup_nil, fun i p ds e => by simp at e, fun p i e => by cases e⟩, .cons (.scr hs) .nil, ?_⟩
  rw [h]
  intro v F' A' H' _ _ r
  exact rep_bl r
end
end Lv

end Part_Lev12

section Part_Lev13
set_option maxRecDepth 100000
set_option maxHeartbeats 4000000
/-! Lev13: the head's facts: defs, constants, free names. -/
namespace Lv
open PySem PySem.Spec PyProof.Rows L2
mutual
def repB (K : PySem.W.Frag) : D → Value → Bool
  | .non, .none => true
  | .bl b, .bool c => b == c
  | .int i, .int j _ => decide (i = j)
  | .str x, .str y _ => decide (x = y)
  | .tup ds, .ref a => match K.lookup a with
    | some ⟨.type c, _, .seq its _, _⟩ => decide (c = "tuple") && decide (its.size ≤ sizeLine) && repsB K ds its.toList
    | _ => false
  | _, _ => false
def repsB (K : PySem.W.Frag) : List D → List Value → Bool
  | [], [] => true
  | d :: ds, u :: us => repB K d u && repsB K ds us
  | _, _ => false
end
mutual
theorem repB_ok {K : PySem.W.Frag} : ∀ {d : D} {u : Value}, repB K d u = true → ∃ v, RelV v u ∧ ∀ fnAd F A, Rep ⟨K, fnAd⟩ F A d v
  | .non, u, h => by
    cases u <;> first | exact ⟨.non, rfl, fun _ _ _ => .non⟩ | cases h
  | .bl b, u, h => by
    cases u <;> try (cases h; done)
    rename_i c
    have h : (b == c) = true := h
    exact ⟨.bl b, by rw [eq_of_beq h]; rfl, fun _ _ _ => .bl b⟩
  | .int i, u, h => by
    cases u <;> try (cases h; done)
    rename_i j t
    have h : i = j := of_decide_eq_true h
    exact ⟨.int i, ⟨t, by rw [h]⟩, fun _ _ _ => .int i⟩
  | .str x, u, h => by
    cases u <;> try (cases h; done)
    rename_i y t
    have h : x = y := of_decide_eq_true h
    exact ⟨.str x, ⟨t, by rw [h]⟩, fun _ _ _ => .str x⟩
  | .tup ds, u, h => by
    cases u <;> try (unfold repB at h; cases h; done)
    rename_i a
    unfold repB at h
    cases q : K.lookup a with
    | none => rw [q] at h; cases h
    | some o =>
      obtain ⟨oc, od, dt, osl⟩ := o
      rw [q] at h
      cases oc with
      | type c =>
        cases dt with
        | seq its n =>
          have h : (decide (c = "tuple") && decide (its.size ≤ sizeLine) && repsB K ds its.toList) = true := h
          simp only [Bool.and_eq_true, decide_eq_true_eq] at h
          obtain ⟨⟨h1, h2⟩, h3⟩ := h
          obtain ⟨vs, r1, r2⟩ := repsB_ok h3
          refine ⟨.ref a, rfl, fun fnAd F A => .tup (.inr ⟨_, its, n, q, congrArg Value.type h1, rfl, h2, r1⟩) (r2 fnAd F A)⟩
        | _ => cases h
      | _ => cases dt <;> cases h
  | .lst ds, u, h => by unfold repB at h; cases h
  | .cell i, u, h => by unfold repB at h; cases h
  | .fn i, u, h => by unfold repB at h; cases h
  | .scr i, u, h => by unfold repB at h; cases h
theorem repsB_ok {K : PySem.W.Frag} : ∀ {ds : List D} {us : List Value}, repsB K ds us = true → ∃ vs, Vals vs us ∧ ∀ fnAd F A, Reps ⟨K, fnAd⟩ F A ds vs
  | [], [], _ => ⟨[], .nil, fun _ _ _ => .nil⟩
  | [], _ :: _, h => by unfold repsB at h; cases h
  | _ :: _, [], h => by unfold repsB at h; cases h
  | d :: ds, u :: us, h => by
    unfold repsB at h
    rw [Bool.and_eq_true] at h
    obtain ⟨v, r1, r2⟩ := repB_ok h.1
    obtain ⟨vs, r3, r4⟩ := repsB_ok h.2
    exact ⟨v :: vs, .cons r1 r3, fun _ _ _ => .cons (r2 _ _ _) (r4 _ _ _)⟩
end
def glFact (K : PySem.W.Frag) (gl : List (Str × D)) : Bool := gl.all fun p => match PySem.W.nsIn K mainGlobals p.1 with
  | some (some u) => repB K p.2 u
  | _ => false
def gcdFact (K : PySem.W.Frag) (b : Bool) : Bool := !b || He.eqO (PySem.W.nsIn K mainGlobals (Str.ofString "gcd")) (some (some (.builtin "math.gcd")))
/-- what the head tells of the written part -/
def exF (gl : List (Str × D)) (b : Bool) (K : PySem.W.Frag) : Bool := glFact K gl && gcdFact K b
def obsL (fa : List He.Fa) (fn : List He.DefD) (gl : List (Str × D)) (b : Bool) (K : PySem.W.Frag) : He.AlD := ((He.obsD fa fn K).1 && exF gl b K, (He.obsD fa fn K).2)
def obsLG (n : Nat) (fa : List He.Fa) (fn : List He.DefD) (gl : List (Str × D)) (b : Bool) (g : Addr → Option Obj) : He.AlD := obsL fa fn gl b (He.frG g (He.asD g n))
theorem obsL_of {fa : List He.Fa} {fn : List He.DefD} {gl : List (Str × D)} {b : Bool} {K : PySem.W.Frag} (e : obsL fa fn gl b K = He.valD fn) : He.SaysD fa fn K ∧ exF gl b K = true := by
  have e1 : ((He.obsD fa fn K).1 && exF gl b K) = true := congrArg (fun z : He.AlD => z.1) e
  rw [Bool.and_eq_true] at e1
  have e2 : (He.obsD fa fn K).2 = fn.map He.DefD.val := congrArg (fun z : He.AlD => z.2) e
  refine ⟨?_, e1.2⟩
  show He.obsD fa fn K = (true, fn.map He.DefD.val)
  rw [← e1.1, ← e2]
def hookL (n : Nat) (fa : List He.Fa) (fn : List He.DefD) (gl : List (Str × D)) (b : Bool) : PySem.W.Hook where
  α := He.AlD
  obs := fun s => obsLG n fa fn gl b s.heap.get?
  val := fun _ => He.valD fn
  says := fun _ h => ∃ K : PySem.W.Frag, K.In h ∧ He.SaysD fa fn K ∧ exF gl b K = true
  of := fun _ _ e => ⟨_, He.frG_in, obsL_of e⟩
  keeps := fun _ _ _ ⟨K, hK, c⟩ k => ⟨K, PySem.W.Frag.In.keeps hK k, c⟩
theorem obsLG_eq {n : Nat} {fa : List He.Fa} {fn : List He.DefD} {gl : List (Str × D)} {b : Bool} {g : Addr → Option Obj} {s : Shared} (h : ∀ a, g a = s.heap.get? a) : obsLG n fa fn gl b g = (hookL n fa fn gl b).obs s := by
  have e : g = s.heap.get? := funext h
  rw [e] <;> rfl
/-- the facts asked for: each def's name, the builtin names free -/
def faOf (fs : List FDef) : List He.Fa := (fs.map fun f => He.Fa.glo f.name) ++ blts.map fun b => He.Fa.free (Str.ofString b)
theorem got_of {fs : List FDef} {ds : List He.DefD} {gl : List (Str × D)} {I : SI} {C : Cfg} {K : PySem.W.Frag} {h : Heap} {mg : Str → Option Value} (X : K.In h) (G : h.Ns mainGlobals mg) (c : He.SaysD (faOf fs) ds K) (ex : exF gl I.gcd K = true) (hgl : I.gl = gl.map (·.1)) (hC : C.glb = gl.map (·.2)) : Got I C fs ds K mg := by
  unfold exF at ex
  rw [Bool.and_eq_true] at ex
  refine ⟨fun i d e => c.def_ i e, fun i f e => ?_, fun b hb => ?_, fun e => ?_, fun j x e => ?_⟩
  · have q : (faOf fs)[i]? = some (.glo f.name) := by
      unfold faOf
      rw [List.getElem?_append_left (by rw [List.length_map]; exact (List.getElem?_eq_some_iff.mp e).1), List.getElem?_map, e]
      rfl
    exact He.glo_ok X G (c.fact i q)
  · obtain ⟨j, hj, e⟩ := List.getElem_of_mem hb
    have q : (faOf fs)[(fs.map fun f => He.Fa.glo f.name).length + j]? = some (.free (Str.ofString b)) := by
      unfold faOf
      rw [List.getElem?_append_right (Nat.le_add_right _ _), Nat.add_sub_cancel_left, List.getElem?_map, List.getElem?_eq_getElem hj, e]
      rfl
    exact He.free_ok X G (c.fact _ q)
  · have z := ex.2
    unfold gcdFact at z
    rw [e] at z
    exact PySem.W.mg_of X G (He.eqO_ok z)
  · rw [hgl, List.getElem?_map] at e
    cases q : gl[j]? with
    | none => rw [q] at e; cases e
    | some p =>
      rw [q] at e
      cases e
      have z := List.all_eq_true.mp (show gl.all _ = true from ex.1) p (List.mem_of_getElem? q)
      cases q2 : PySem.W.nsIn K mainGlobals p.1 with
      | none => rw [q2] at z; cases z
      | some r =>
        cases r with
        | none => rw [q2] at z; cases z
        | some u =>
          rw [q2] at z
          obtain ⟨v, r1, r2⟩ := repB_ok (show repB K p.2 u = true from z)
          exact ⟨u, v, p.2, PySem.W.mg_of X G q2, r1, by rw [hC, List.getElem?_map, q]; rfl, r2⟩
end Lv

end Part_Lev13

section Part_Pl0
set_option maxRecDepth 100000
/-! Pl0: reckoning with the small language: equations, ends, fractions. -/
namespace Lv
open PySem
/-! ### equations of the meaning -/
/-- a proof that the stepper keeps as a step -/
theorem nr {α : Sort _} {a b : α} (h : a = b) : a = b := h
section
variable (C : Cfg) (P : Phi) (env : Env) (u : U)
theorem bind_ok {α β : Type} (a : α) (u : U) (f : α → M β) : (Res.ok a u).bind f = f a u := nr rfl
theorem mbind_ap {α β : Type} (m : M α) (f : α → M β) (u : U) : M.bind m f u = (m u).bind f := nr rfl
theorem lift_some {α : Type} (a : α) (u : U) : lift (some a) u = .ok a u := nr rfl
theorem ret_ap {α : Type} (a : α) (u : U) : (ret a : M α) u = .ok a u := nr rfl
theorem E_loc (i : Nat) : denE C P (.loc i) env u = (match getS env i with | .val d => ret d | _ => stuck : M D) u := nr rfl
theorem E_cst (c : Cst) : denE C P (.cst c) env u = .ok c.d u := nr rfl
theorem E_glb (j : Nat) : denE C P (.glb j) env u = lift C.glb[j]? u := nr rfl
theorem E_fnv (f : Nat) : denE C P (.fnv f) env u = .ok (.fn f) u := nr rfl
theorem E_bin (o : BinO) (a b : CE) : denE C P (.bin o a b) env u = (denE C P a env u).bind fun x u1 => (denE C P b env u1).bind fun y u2 => lift (o.run x y) u2 := nr rfl
def negD : D → M D
  | .int i => ret (.int (-i))
  | _ => stuck
theorem E_neg (a : CE) : denE C P (.neg a) env u = (denE C P a env u).bind negD := nr rfl
theorem E_not (a : CE) : denE C P (.notv a) env u = (denE C P a env u).bind fun d u1 => (asBl d u1).bind fun b u2 => .ok (.bl (!b)) u2 := nr rfl
theorem E_and (es : CEs) : denE C P (.andv es) env u = denAnd C P es env u := nr rfl
theorem E_or (es : CEs) : denE C P (.orv es) env u = denOr C P es env u := nr rfl
theorem E_cmp (o : CmpO) (a b : Op) : denE C P (.cmp o a b) env u = (denO C P a env u).bind fun x u1 => (denO C P b env u1).bind fun y u2 => (lift (o.run x y) u2).bind fun c u3 => .ok (.bl c) u3 := nr rfl
theorem E_cmp2 (o o2 : CmpO) (a b c : CE) : denE C P (.cmp2 o o2 a b c) env u = (denE C P a env u).bind fun x u1 => (denE C P b env u1).bind fun y u2 => (lift (o.run x y) u2).bind fun t u3 => (if t = true then M.bind (denE C P c env) fun z => M.bind (lift (o2.run y z)) fun r => ret (.bl r) else ret (.bl false) : M D) u3 := nr rfl
theorem E_ite (c a b : CE) : denE C P (.ite c a b) env u = (denE C P c env u).bind fun d u1 => (asBl d u1).bind fun t u2 => (if t = true then denE C P a env else denE C P b env) u2 := nr rfl
theorem E_tup (es : CEs) : denE C P (.tup es) env u = (denEs C P es env u).bind fun ds u1 => .ok (.tup ds) u1 := nr rfl
theorem E_newc (es : CEs) : denE C P (.newc es) env u = (denEs C P es env u).bind fun ds u1 => .ok (.cell u1.length) (u1 ++ [ds]) := nr rfl
theorem E_idx (a : Op) (i : CE) : denE C P (.idx a i) env u = (denO C P a env u).bind fun x u1 => (denE C P i env u1).bind fun y u2 => lift (idxD u2 x y) u2 := nr rfl
def slTD (x : D) (l h : Option Int) : M D := match x with
  | .tup ds => ret (.tup (cut ds l h))
  | .lst ds => ret (.lst (cut ds l h))
  | _ => stuck
theorem E_slT (a : Op) (lo hi : OpB) : denE C P (.slT a lo hi) env u = (denO C P a env u).bind fun x u1 => (denB C P lo env u1).bind fun l u2 => (denB C P hi env u2).bind fun h u3 => slTD x l h u3 := nr rfl
theorem E_call (f : Nat) (es : CEs) : denE C P (.call f es) env u = (denEs C P es env u).bind fun ds u1 => P f ds u1 := nr rfl
theorem E_callK (f j : Nat) (es ks : CEs) : denE C P (.callK f j es ks) env u = (denEs C P es env u).bind fun a u1 => (denEs C P ks env u1).bind fun b u2 => (lift (permOf C j (a ++ b)) u2).bind fun ds u3 => P f ds u3 := nr rfl
theorem E_callL (i : Nat) (es : CEs) : denE C P (.callL i es) env u = (match getS env i with | .val (.fn f) => M.bind (denEs C P es env) fun ds => P f ds | _ => stuck : M D) u := nr rfl
theorem E_bi (b : Bi) (es : Ops) : denE C P (.bi b es) env u = (denOs C P es env u).bind fun ds u1 => lift (b.run u1 ds) u1 := nr rfl
theorem E_isi (a : CE) (ts : List Ty) (s : Bool) : denE C P (.isi a ts s) env u = (denE C P a env u).bind fun d u1 => (lift (isAny ts d) u1).bind fun b u2 => .ok (.bl b) u2 := nr rfl
theorem E_fr (f : FE) : denE C P (.fr f) env u = (denF C P f env u).bind fun ds u1 => .ok (.lst ds) u1 := nr rfl
theorem B_no : denB C P .no env u = .ok none u := nr rfl
theorem B_so (e : CE) : denB C P (.so e) env u = (denE C P e env u).bind fun d u1 => lift (bndD d) u1 := nr rfl
theorem O_v (e : CE) : denO C P (.v e) env u = denE C P e env u := nr rfl
theorem O_bor (i : Nat) : denO C P (.bor i) env u = (match getS env i with | .own ds => ret (.lst ds) | _ => stuck : M D) u := nr rfl
theorem Os_nil : denOs C P .nil env u = .ok [] u := nr rfl
theorem Os_cons (o : Op) (os : Ops) : denOs C P (.cons o os) env u = (denO C P o env u).bind fun d u1 => (denOs C P os env u1).bind fun r u2 => .ok (d :: r) u2 := nr rfl
theorem Es_nil : denEs C P .nil env u = .ok [] u := nr rfl
theorem Es_cons (e : CE) (es : CEs) : denEs C P (.cons e es) env u = (denE C P e env u).bind fun d u1 => (denEs C P es env u1).bind fun r u2 => .ok (d :: r) u2 := nr rfl
theorem And_one (e : CE) : denAnd C P (.cons e .nil) env u = (denE C P e env u).bind fun d u1 => (asBl d u1).bind fun b u2 => .ok (.bl b) u2 := nr rfl
theorem And_cons (e f : CE) (es : CEs) : denAnd C P (.cons e (.cons f es)) env u = (denE C P e env u).bind fun d u1 => (asBl d u1).bind fun b u2 => (if b = true then denAnd C P (.cons f es) env else ret (.bl false)) u2 := nr rfl
theorem Or_one (e : CE) : denOr C P (.cons e .nil) env u = (denE C P e env u).bind fun d u1 => (asBl d u1).bind fun b u2 => .ok (.bl b) u2 := nr rfl
theorem Or_cons (e f : CE) (es : CEs) : denOr C P (.cons e (.cons f es)) env u = (denE C P e env u).bind fun d u1 => (asBl d u1).bind fun b u2 => (if b = true then ret (.bl true) else denOr C P (.cons f es) env) u2 := nr rfl
theorem asBl_bl (b : Bool) (u : U) : asBl (.bl b) u = .ok b u := nr rfl
theorem Cs_nil : denCs C P .nil env u = .ok true u := nr rfl
theorem Cs_one (e : CE) : denCs C P (.cons e .nil) env u = (denE C P e env u).bind fun d u1 => asBl d u1 := nr rfl
theorem F_disp (es : CEs) : denF C P (.disp es) env u = denEs C P es env u := nr rfl
def catD (x y : D) : M (List D) := match x, y with
  | .lst x, .lst y => if x.length + y.length ≤ line then ret (x ++ y) else stuck
  | _, _ => stuck
theorem F_cat (a b : Op) : denF C P (.cat a b) env u = (denO C P a env u).bind fun x u1 => (denO C P b env u1).bind fun y u2 => catD x y u2 := nr rfl
noncomputable def lcB (elt : CE) (vs : List Nat) (tg : Tg) (cs : CEs) (env : Env) (d : D) : M (Option D) := fun u => (denT C P tg d (wipeS env vs) u).bind fun e1 u1 => (denCs C P cs e1 u1).bind fun b u2 => (if b = true then M.bind (denE C P elt e1) fun y => ret (some y) else ret none : M (Option D)) u2
theorem F_lc (elt : CE) (vs : List Nat) (tg : Tg) (it : It) (cs : CEs) : denF C P (.lc elt vs tg it cs) env u = (denI C P it env u).bind fun items u1 => (if items.length ≤ line then lcRun (lcB C P elt vs tg cs env) items else stuck) u1 := nr rfl
def lstD (d : D) : M (List D) := match d with
  | .lst ds | .tup ds => ret ds
  | _ => stuck
theorem F_lst (o : Op) : denF C P (.lst o) env u = (denO C P o env u).bind lstD := nr rfl
theorem F_lstR (it : It) : denF C P (.lstR it) env u = (denI C P it env u).bind fun ds u1 => (if ds.length ≤ line then ret ds else stuck) u1 := nr rfl
def slD (x : D) (l h : Option Int) : M (List D) := match lstOf x with
  | some ds => ret (cut ds l h)
  | none => stuck
theorem F_sl (a : Op) (lo hi : OpB) : denF C P (.sl a lo hi) env u = (denO C P a env u).bind fun x u1 => (denB C P lo env u1).bind fun l u2 => (denB C P hi env u2).bind fun h u3 => slD x l h u3 := nr rfl
def revD (d : D) : M (List D) := match d with
  | .lst ds => ret ds.reverse
  | _ => stuck
theorem F_rev (a : Op) : denF C P (.rev a) env u = (denO C P a env u).bind revD := nr rfl
theorem I_seq (o : Op) : denI C P (.seq o) env u = (denO C P o env u).bind fun d u1 => lift (itsOf d) u1 := nr rfl
theorem I_rng1 (a : CE) : denI C P (.rng1 a) env u = (denE C P a env u).bind fun d u1 => lift (rng1D d) u1 := nr rfl
theorem I_rng2 (a b : CE) : denI C P (.rng2 a b) env u = (denE C P a env u).bind fun x u1 => (denE C P b env u1).bind fun y u2 => lift (rng2D x y) u2 := nr rfl
theorem I_enm (o : CE) (k : Option Int) : denI C P (.enm o k) env u = (denE C P o env u).bind fun d u1 => lift (enmD k d) u1 := nr rfl
theorem I_zip (a b : CE) : denI C P (.zip a b) env u = (denE C P a env u).bind fun x u1 => (denE C P b env u1).bind fun y u2 => lift (zipD x y) u2 := nr rfl
theorem T_nm (i : Nat) (d : D) : denT C P (.nm i) d env u = .ok (setS env i (.val d)) u := nr rfl
theorem T_tp (ts : Tgs) (ds : List D) : denT C P (.tp ts) (.tup ds) env u = denTs C P ts ds env u := nr rfl
theorem T_ix (i : Nat) (e : CE) (d : D) : denT C P (.ix i e) d env u = (denE C P e env u).bind (setD i d env) := nr rfl
theorem Ts_nil : denTs C P .nil [] env u = .ok env u := nr rfl
theorem Ts_cons (t : Tg) (ts : Tgs) (d : D) (ds : List D) : denTs C P (.cons t ts) (d :: ds) env u = (denT C P t d env u).bind fun e1 u1 => denTs C P ts ds e1 u1 := nr rfl
theorem S_asg (t : Tg) (e : CE) : denS C P (.asg t e) env u = (denE C P e env u).bind fun d u1 => (denT C P t d env u1).bind fun e1 u2 => .ok (.nxt e1) u2 := nr rfl
theorem S_own (i : Nat) (f : FE) : denS C P (.own i f) env u = (denF C P f env u).bind fun ds u1 => .ok (.nxt (setS env i (.own ds))) u1 := nr rfl
theorem S_par (ps : Prs) : denS C P (.par ps) env u = (denP C P ps env env u).bind fun e1 u1 => .ok (.nxt e1) u1 := nr rfl
theorem S_expr (e : CE) : denS C P (.expr e) env u = (denE C P e env u).bind fun _ u1 => .ok (.nxt env) u1 := nr rfl
theorem S_app (i : Nat) (e : CE) : denS C P (.app i e) env u = (denE C P e env u).bind (appD i env) := nr rfl
theorem S_ext (i : Nat) (o : Op) : denS C P (.ext i o) env u = (denO C P o env u).bind (extD i env) := nr rfl
theorem S_ret (e : CE) : denS C P (.ret e) env u = (denE C P e env u).bind fun d u1 => .ok (.ret d) u1 := nr rfl
theorem S_retN : denS C P .retN env u = .ok (.ret .non) u := nr rfl
theorem S_ifs (c : CE) (a b : CSs) : denS C P (.ifs c a b) env u = (denE C P c env u).bind fun d u1 => (asBl d u1).bind fun t u2 => (if t = true then denSs C P a env else denSs C P b env) u2 := nr rfl
noncomputable def forB (t : Tg) (b : CSs) (d : D) (e : Env) : M Out := fun u => (denT C P t d e u).bind fun e1 u1 => denSs C P b e1 u1
theorem S_for (t : Tg) (it : It) (b : CSs) : denS C P (.for_ t it b) env u = (denI C P it env u).bind fun items u1 => forRun (forB C P t b) items env u1 := nr rfl
noncomputable def whlB (c : CE) (b : CSs) (e : Env) : M (Option Out) := fun u => (denE C P c e u).bind fun d u1 => (asBl d u1).bind fun k u2 => (if k = true then M.bind (denSs C P b e) fun o => ret (some o) else ret none : M (Option Out)) u2
theorem S_whl (c : CE) (b : CSs) : denS C P (.whl c b) env u = whileR (whlB C P c b) env u := nr rfl
theorem S_pass : denS C P .pass env u = .ok (.nxt env) u := nr rfl
theorem S_frz (i : Nat) : denS C P (.frz i) env u = .ok (.nxt (frzD env i)) u := nr rfl
theorem Ss_nil : denSs C P .nil env u = .ok (.nxt env) u := nr rfl
theorem Ss_cons (s : CS) (ss : CSs) : denSs C P (.cons s ss) env u = (denS C P s env u).bind (thenO (denSs C P ss)) := nr rfl
theorem thenO_nxt (f : Env → M Out) (e : Env) (u : U) : thenO f (.nxt e) u = f e u := nr rfl
theorem thenO_ret (f : Env → M Out) (d : D) (u : U) : thenO f (.ret d) u = .ok (.ret d) u := nr rfl
theorem P_nil (env0 : Env) : denP C P .nil env0 env u = .ok env u := nr rfl
theorem P_val (i : Nat) (e : CE) (r : Prs) (env0 : Env) : denP C P (.val (.nm i) e r) env0 env u = (denE C P e env0 u).bind fun d u1 => denP C P r env0 (setS env i (.val d)) u1 := nr rfl
theorem P_own (i : Nat) (f : FE) (r : Prs) (env0 : Env) : denP C P (.own i f r) env0 env u = (denF C P f env0 u).bind fun ds u1 => denP C P r env0 (setS env i (.own ds)) u1 := nr rfl
end
/-- how a def ends -/
def endO : Out → M D
  | .ret d => ret d
  | .nxt _ => ret .non
  | _ => stuck
theorem endO_ret (d : D) (u : U) : endO (.ret d) u = .ok d u := nr rfl
theorem endO_nxt (e : Env) (u : U) : endO (.nxt e) u = .ok .non u := nr rfl
theorem runF_eq (C : Cfg) (P : Phi) (f : FDef) (ds : List D) (u : U) (h : ds.length = f.ps.length) : runF C P f ds u = (denSs C P f.body (startE f.N.length ds) u).bind endO := by
  unfold runF
  rw [if_pos h]
  congr 1
  funext o u1
  cases o <;> rfl
theorem run_at {C : Cfg} {fs : List FDef} {i : Nat} {f : FDef} (h : fs[i]? = some f) (k : Nat) (ds : List D) (u : U) (hl : ds.length = f.ps.length) : run C fs (k + 1) i ds u = (denSs C (run C fs k) f.body (startE f.N.length ds) u).bind endO := by
  rw [← runF_eq _ _ _ _ _ hl]
  show (match fs[i]? with | some f => runF C (run C fs k) f ds | none => stuck) u = _
  rw [h]
theorem Res.bind_assoc' {α β γ : Type} (r : Res α) (f : α → M β) (g : β → M γ) : (r.bind f).bind g = r.bind fun a u => (f a u).bind g := by cases r <;> rfl
/-! ### loops -/
theorem lcRun_map {body : D → M (Option D)} {u : U} {g : D → D} : ∀ {ds : List D}, (∀ d ∈ ds, body d u = .ok (some (g d)) u) → lcRun body ds u = .ok (ds.map g) u
  | [], _ => rfl
  | d :: ds, h => by
    show (body d u).bind _ = _
    rw [h d List.mem_cons_self, bind_ok, lcRun_map fun x hx => h x (List.mem_cons_of_mem _ hx)]
    rfl
theorem lcRun_filter {body : D → M (Option D)} {u : U} {g : D → D} {p : D → Bool} : ∀ {ds : List D}, (∀ d ∈ ds, body d u = .ok (if p d = true then some (g d) else none) u) → lcRun body ds u = .ok ((ds.filter p).map g) u
  | [], _ => rfl
  | d :: ds, h => by
    show (body d u).bind _ = _
    rw [h d List.mem_cons_self, bind_ok, lcRun_filter fun x hx => h x (List.mem_cons_of_mem _ hx)]
    rw [bind_ok]
    cases q : p d with
    | true => rw [if_pos rfl, List.filter_cons_of_pos q]; rfl
    | false => rw [if_neg Bool.false_ne_true, List.filter_cons_of_neg (by rw [q]; exact Bool.false_ne_true)]
/-! ### what is wanted of an end -/
def Wp {α : Type} (r : Res α) (Q : α → U → Prop) : Prop := match r with
  | .ok a u => Q a u
  | _ => False
theorem Wp.bind {α β : Type} {r : Res α} {f : α → M β} {Q : β → U → Prop} (h : Wp r fun a u => Wp (f a u) Q) : Wp (r.bind f) Q := by
  cases r <;> first | exact h | exact h.elim
theorem Wp.mono {α : Type} {r : Res α} {Q Q' : α → U → Prop} (h : Wp r Q) (w : ∀ a u, Q a u → Q' a u) : Wp r Q' := by
  cases r with
  | ok a u => exact w a u h
  | exc c a u => exact h
  | bad => exact h
theorem Wp.ok {α : Type} {a : α} {u : U} {Q : α → U → Prop} (h : Q a u) : Wp (.ok a u) Q := h
theorem Wp.of {α : Type} {r : Res α} {Q : α → U → Prop} (h : Wp r Q) : ∃ a u, r = .ok a u ∧ Q a u := by
  cases r with
  | ok a u => exact ⟨a, u, rfl, h⟩
  | exc c a u => exact h.elim
  | bad => exact h.elim
/-- a while by an invariant with a measure -/
theorem whileR_eq {step : Env → M (Option Out)} {env : Env} {u : U} {n : Nat} {r : Res Out} (h : whileN step n env u = some r) : whileR step env u = r := by
  have uniq : ∀ (n m : Nat) (env : Env) (u : U) (r s : Res Out), whileN step n env u = some r → whileN step m env u = some s → r = s := by
    intro n
    induction n with
    | zero => intro m env u r s h; cases h
    | succ n ih =>
      intro m env u r s h1 h2
      cases m with
      | zero => cases h2
      | succ m =>
        unfold whileN at h1 h2
        rcases hs : step env u with ⟨o, u1⟩ | ⟨c, a, u1⟩ | _
        · rw [hs] at h1 h2
          cases o with
          | none => cases h1; cases h2; rfl
          | some o =>
            cases o with
            | nxt e => exact ih m e u1 r s h1 h2
            | cnt e => exact ih m e u1 r s h1 h2
            | brk e => cases h1; cases h2; rfl
            | ret d => cases h1; cases h2; rfl
        · rw [hs] at h1 h2; cases h1; cases h2; rfl
        · rw [hs] at h1 h2; cases h1; cases h2; rfl
  unfold whileR
  have hx : ∃ n r, whileN step n env u = some r := ⟨n, r, h⟩
  rw [dif_pos hx]
  exact uniq _ _ _ _ _ _ hx.choose_spec.choose_spec h
/-! ### slots -/
theorem getS_0 (s : Sl) (e : Env) : getS (s :: e) 0 = s := rfl
theorem getS_s (s : Sl) (e : Env) (i : Nat) : getS (s :: e) (i + 1) = getS e i := rfl
theorem setS_0 (s t : Sl) (e : Env) : setS (s :: e) 0 t = t :: e := rfl
theorem setS_s (s t : Sl) (e : Env) (i : Nat) : setS (s :: e) (i + 1) t = s :: setS e i t := rfl
/-! ### sizes -/
def Sm (n : Nat) (i : Int) : Prop := i.natAbs < 2 ^ n
theorem log2_lt {a n : Nat} (h : a < 2 ^ n) (hn : 0 < n) : a.log2 < n := by
  by_cases ha : a = 0
  · subst ha; simpa using hn
  · exact (Nat.log2_lt ha).mpr h
theorem mulOk_of {i j : Int} {n m : Nat} (hi : Sm n i) (hj : Sm m j) (h : n + m < 500000) : mulOk i j = true := by
  unfold mulOk
  rw [decide_eq_true_eq]
  have h1 : i.natAbs.log2 < n + 1 := log2_lt (Nat.lt_trans hi (Nat.pow_lt_pow_right (by decide) (Nat.lt_succ_self n))) (by omega)
  have h2 : j.natAbs.log2 < m + 1 := log2_lt (Nat.lt_trans hj (Nat.pow_lt_pow_right (by decide) (Nat.lt_succ_self m))) (by omega)
  omega
theorem Sm.mono {n m : Nat} {i : Int} (h : Sm n i) (hm : n ≤ m) : Sm m i := Nat.lt_of_lt_of_le h (Nat.pow_le_pow_right (by decide) hm)
theorem Sm.mul {n m : Nat} {i j : Int} (h : Sm n i) (h' : Sm m j) : Sm (n + m) (i * j) := by
  unfold Sm at *
  rw [Int.natAbs_mul, Nat.pow_add]
  exact Nat.mul_lt_mul'' h h'
theorem Sm.add {n m : Nat} {i j : Int} (h : Sm n i) (h' : Sm m j) (hm : m ≤ n) : Sm (n + 1) (i + j) := by
  have h'' := h'.mono hm
  unfold Sm at *
  rw [Nat.pow_succ]
  have := Int.natAbs_add_le i j
  omega
theorem Sm.sub {n m : Nat} {i j : Int} (h : Sm n i) (h' : Sm m j) (hm : m ≤ n) : Sm (n + 1) (i - j) := by
  have h'' := h'.mono hm
  unfold Sm at *
  rw [Nat.pow_succ]
  omega
end Lv

end Part_Pl0

section Part_Pl1
set_option maxRecDepth 100000
/-! Pl1: the stepper; fractions. -/
namespace Lv
open PySem
theorem add_ii (i j : Int) : BinO.run .add (.int i) (.int j) = some (.int (i + j)) := nr rfl
theorem sub_ii (i j : Int) : BinO.run .sub (.int i) (.int j) = some (.int (i - j)) := nr rfl
theorem add_tt {a b : List D} (h : a.length + b.length ≤ line) : BinO.run .add (.tup a) (.tup b) = some (.tup (a ++ b)) := by
  show (if a.length + b.length ≤ line then _ else _) = _
  rw [if_pos h]
theorem mul_ii {i j : Int} (h : mulOk i j = true) : BinO.run .mul (.int i) (.int j) = some (.int (i * j)) := by
  show (if mulOk i j = true then _ else _) = _
  rw [if_pos h]
theorem fdiv_ii {i j : Int} (h : 0 < j) (h2 : j.natAbs.log2 < 9000) : BinO.run .fdiv (.int i) (.int j) = some (.int (i / j)) := by
  show (if 0 < j ∧ j.natAbs.log2 < 9000 then _ else _) = _
  rw [if_pos ⟨h, h2⟩]
theorem mod_ii {i j : Int} (h : 0 < j) : BinO.run .mod (.int i) (.int j) = some (.int (i % j)) := by
  show (if 0 < j then _ else _) = _
  rw [if_pos h]
theorem lt_ii (i j : Int) : CmpO.run .lt (.int i) (.int j) = some (decide (i < j)) := nr rfl
theorem le_ii (i j : Int) : CmpO.run .le (.int i) (.int j) = some (decide (i ≤ j)) := nr rfl
theorem gt_ii (i j : Int) : CmpO.run .gt (.int i) (.int j) = some (decide (j < i)) := nr rfl
theorem ge_ii (i j : Int) : CmpO.run .ge (.int i) (.int j) = some (decide (j ≤ i)) := nr rfl
theorem pair0 (u : U) (a b : D) : idxD u (.tup [a, b]) (.int 0) = some a := nr rfl
theorem pair1 (u : U) (a b : D) : idxD u (.tup [a, b]) (.int 1) = some b := nr rfl
theorem gcd_ii (u : U) (i j : Int) : Bi.run u .gcd [.int i, .int j] = some (.int (Int.gcd i j)) := nr rfl
theorem len_tup (u : U) (ds : List D) : Bi.run u .len [.tup ds] = some (.int ds.length) := nr rfl
theorem len_lst (u : U) (ds : List D) : Bi.run u .len [.lst ds] = some (.int ds.length) := nr rfl
theorem tuple_lst (u : U) (ds : List D) : Bi.run u .tuple [.lst ds] = some (.tup ds) := nr rfl
theorem int_i (u : U) (i : Int) : Bi.run u .int [.int i] = some (.int i) := nr rfl
theorem abs_i (u : U) (i : Int) : Bi.run u .abs [.int i] = some (.int (if i < 0 then -i else i)) := nr rfl
theorem max2_ii (u : U) (i j : Int) : Bi.run u .max2 [.int i, .int j] = some (.int (if j > i then j else i)) := nr rfl
theorem min2_ii (u : U) (i j : Int) : Bi.run u .min2 [.int i, .int j] = some (.int (if j < i then j else i)) := nr rfl
theorem bnd_i (i : Int) : bndD (.int i) = some (some i) := nr rfl
theorem cat_ll {x y : List D} (h : x.length + y.length ≤ line) (u : U) : catD (.lst x) (.lst y) u = .ok (x ++ y) u := by
  show (if x.length + y.length ≤ line then ret (x ++ y) else stuck : M (List D)) u = _
  rw [if_pos h]
theorem neg_i (i : Int) (u : U) : negD (.int i) u = .ok (.int (-i)) u := nr rfl
theorem Cd_int (i : Int) : (Cst.int i).d = .int i := rfl
theorem Cd_bl (i : Bool) : (Cst.bl i).d = .bl i := rfl
theorem Cd_non : Cst.non.d = .non := rfl
theorem Cd_str (x : Str) : (Cst.str x).d = .str x := rfl
theorem lc_run {C : Cfg} {P : Phi} {elt : CE} {vs : List Nat} {tg : Tg} {it : It} {cs : CEs} {env : Env} {u u1 : U} {items : List D} {r : Res (List D)} (hI : denI C P it env u = .ok items u1) (hl : items.length ≤ line) (hr : lcRun (lcB C P elt vs tg cs env) items u1 = r) : denF C P (.lc elt vs tg it cs) env u = r := by
  rw [F_lc, hI, bind_ok, if_pos hl, hr]
theorem startE_2 (a b : D) : startE 2 [a, b] = [.val a, .val b] := rfl
theorem startE_1 (a : D) : startE 1 [a] = [.val a] := rfl
theorem startE_21 (a : D) : startE 2 [a] = [.val a, .no] := rfl
theorem startE_32 (a b : D) : startE 3 [a, b] = [.val a, .val b, .no] := rfl
theorem startE_3 (a b c : D) : startE 3 [a, b, c] = [.val a, .val b, .val c] := rfl
end Lv
end Part_Pl1
set_option maxRecDepth 100000 in
open Lv in
local macro_rules | `(tactic| dsimp! [$ts,*]) => `(tactic| simp only [bind_ok, mbind_ap, lift_some, ret_ap, E_loc, E_cst, E_glb, E_fnv, E_bin, E_neg, E_not, E_and, E_or, E_cmp, E_cmp2, E_ite, E_tup, E_idx, E_slT, E_call, E_callK, E_callL, E_bi, E_isi, E_fr, B_no, B_so, O_v, O_bor, Os_nil, Os_cons, Es_nil, Es_cons, And_one, And_cons, Or_one, Or_cons, asBl_bl, Cs_nil, Cs_one, F_disp, F_cat, F_lst, F_lstR, F_sl, F_rev, I_seq, I_rng1, I_rng2, I_enm, I_zip, T_nm, T_tp, T_ix, Ts_nil, Ts_cons, S_asg, S_own, S_par, S_expr, S_app, S_ext, S_ret, S_retN, S_ifs, S_pass, S_frz, Ss_nil, Ss_cons, thenO_nxt, thenO_ret, P_nil, P_val, P_own, endO_ret, endO_nxt, getS_0, getS_s, setS_0, setS_s, add_ii, sub_ii, lt_ii, le_ii, gt_ii, ge_ii, pair0, pair1, gcd_ii, len_tup, len_lst, tuple_lst, int_i, neg_i, bnd_i, Cd_int, Cd_bl, Cd_non, Cd_str, startE_1, startE_2, startE_21, startE_32, startE_3, if_true, if_false, Bool.false_eq_true, decide_eq_true_eq, $ts,*])
section Part_Pl1
set_option maxRecDepth 100000
namespace Lv
open PySem
/-- a fraction as the program has it -/
def Q (q : Rat) : D := .tup [.int q.num, .int q.den]
def Qs (n : Nat) (q : Rat) : Prop := Sm n q.num ∧ q.den < 2 ^ n
theorem Q_int (n : Int) : Q (n : Rat) = .tup [.int n, .int 1] := rfl
theorem divInt_pos_num {n m : Int} (h : 0 < m) : (Rat.divInt n m).num = n / (Int.gcd n m : Int) := by
  rw [Rat.num_divInt, Int.sign_eq_one_of_pos h, Int.one_mul, Int.gcd_comm]
theorem divInt_pos_den {n m : Int} (h : 0 < m) : ((Rat.divInt n m).den : Int) = m / (Int.gcd n m : Int) := by
  rw [Rat.den_divInt, if_neg (by omega), Int.gcd_comm m n]
  have : (m.natAbs : Int) = m := Int.natAbs_of_nonneg (by omega)
  rw [Int.natCast_ediv, this]
theorem gcd_pos {n m : Int} (h : 0 < m) : 0 < (Int.gcd n m : Int) := by
  have : 0 < Int.gcd n m := Int.gcd_pos_of_ne_zero_right n (by omega)
  omega
theorem gcd_sm {n m : Int} {k : Nat} (h : 0 < m) (hm : Sm k m) : Sm k (Int.gcd n m : Int) := by
  unfold Sm at *
  have h1 : Int.gcd n m ∣ m.natAbs := Int.gcd_dvd_natAbs_right n m
  have h2 := Nat.le_of_dvd (by omega) h1
  rw [Int.natAbs_natCast]
  omega
theorem Q_divInt {n m : Int} (h : 0 < m) : Q (Rat.divInt n m) = .tup [.int (n / (Int.gcd n m : Int)), .int (m / (Int.gcd n m : Int))] := by
  unfold Q
  rw [divInt_pos_num h, divInt_pos_den h]
/-- fraction(number, under) -/
def fracB : CSs := (.cons (.asg (.nm 2) (.bin .mul (.bi .gcd (.cons (.v (.loc 0)) (.cons (.v (.loc 1)) .nil))) (.ite (.cmp .gt (.v (.loc 1)) (.v (.cst (.int 0)))) (.cst (.int 1)) (.neg (.cst (.int 1)))))) (.cons (.ret (.tup (.cons (.bin .fdiv (.loc 0) (.loc 2)) (.cons (.bin .fdiv (.loc 1) (.loc 2)) .nil)))) .nil))
theorem sm_log {k : Nat} {i : Int} (h : Sm k i) (hk : k < 8999) : i.natAbs.log2 < 9000 := by
  have := log2_lt (Nat.lt_trans h (Nat.pow_lt_pow_right (by decide) (Nat.lt_succ_self k))) (by omega)
  omega
theorem frac_run (C : Cfg) (P : Phi) (n m : Int) (u : U) (h : 0 < m) (hm : Sm 8000 m) : (denSs C P fracB (startE 3 [.int n, .int m]) u).bind endO = .ok (Q (Rat.divInt n m)) u := by
  have hg := gcd_sm (n := n) h hm
  have hp := gcd_pos (n := n) h
  have e1 : mulOk (Int.gcd n m : Int) 1 = true := mulOk_of hg (show Sm 1 1 by unfold Sm; decide) (by decide)
  have hd : decide (0 < m) = true := decide_eq_true h
  unfold fracB
  dsimp! [mul_ii e1, hd]
  rw [Int.mul_one]
  dsimp! [fdiv_ii hp (sm_log hg (by decide)), Q_divInt h]
def sumB (f : Nat) : CSs := (.cons (.ret (.call f (.cons (.bin .add (.bin .mul (.idx (.v (.loc 0)) (.cst (.int 0))) (.idx (.v (.loc 1)) (.cst (.int 1)))) (.bin .mul (.idx (.v (.loc 1)) (.cst (.int 0))) (.idx (.v (.loc 0)) (.cst (.int 1))))) (.cons (.bin .mul (.idx (.v (.loc 0)) (.cst (.int 1))) (.idx (.v (.loc 1)) (.cst (.int 1)))) .nil)))) .nil)
def lessB (f : Nat) : CSs := (.cons (.ret (.call f (.cons (.bin .sub (.bin .mul (.idx (.v (.loc 0)) (.cst (.int 0))) (.idx (.v (.loc 1)) (.cst (.int 1)))) (.bin .mul (.idx (.v (.loc 1)) (.cst (.int 0))) (.idx (.v (.loc 0)) (.cst (.int 1))))) (.cons (.bin .mul (.idx (.v (.loc 0)) (.cst (.int 1))) (.idx (.v (.loc 1)) (.cst (.int 1)))) .nil)))) .nil)
def timesB (f : Nat) : CSs := (.cons (.ret (.call f (.cons (.bin .mul (.idx (.v (.loc 0)) (.cst (.int 0))) (.idx (.v (.loc 1)) (.cst (.int 0)))) (.cons (.bin .mul (.idx (.v (.loc 0)) (.cst (.int 1))) (.idx (.v (.loc 1)) (.cst (.int 1)))) .nil)))) .nil)
def partB (f : Nat) : CSs := (.cons (.ret (.call f (.cons (.idx (.v (.loc 0)) (.cst (.int 0))) (.cons (.bin .mul (.idx (.v (.loc 0)) (.cst (.int 1))) (.loc 1)) .nil)))) .nil)
def belowB : CSs := (.cons (.ret (.cmp .lt (.v (.bin .mul (.idx (.v (.loc 0)) (.cst (.int 0))) (.idx (.v (.loc 1)) (.cst (.int 1))))) (.v (.bin .mul (.idx (.v (.loc 1)) (.cst (.int 0))) (.idx (.v (.loc 0)) (.cst (.int 1))))))) .nil)
def wholeB : CSs := (.cons (.ret (.tup (.cons (.loc 0) (.cons (.cst (.int 1)) .nil)))) .nil)
theorem Qs.n {k : Nat} {q : Rat} (h : Qs k q) : Sm k q.num := h.1
theorem Qs.d {k : Nat} {q : Rat} (h : Qs k q) : Sm k (q.den : Int) := h.2
theorem den_pos (q : Rat) : (0 : Int) < (q.den : Int) := by have := q.den_pos; omega
theorem Qs.mono {k j : Nat} {q : Rat} (h : Qs k q) (hj : k ≤ j) : Qs j q := ⟨h.1.mono hj, (Sm.mono (i := (q.den : Int)) h.2 hj)⟩
theorem below_run (C : Cfg) (P : Phi) {a b : Rat} (u : U) {k : Nat} (ha : Qs k a) (hb : Qs k b) (hk : k ≤ 4000) : (denSs C P belowB (startE 2 [Q a, Q b]) u).bind endO = .ok (.bl (decide (a < b))) u := by
  have e1 := mulOk_of ha.n hb.d (by omega)
  have e2 := mulOk_of hb.n ha.d (by omega)
  have e3 : decide (a < b) = decide (a.num * b.den < b.num * a.den) := decide_eq_decide.mpr (Rat.lt_iff a b)
  unfold belowB
  rw [e3]
  unfold Q
  dsimp! [mul_ii e1, mul_ii e2]
theorem whole_run (C : Cfg) (P : Phi) (n : Int) (u : U) : (denSs C P wholeB (startE 1 [.int n]) u).bind endO = .ok (Q (n : Rat)) u := by
  unfold wholeB
  dsimp! [Q_int]
/-- P keeps what fraction promises -/
def FracP (P : Phi) (f : Nat) : Prop := ∀ (n m : Int) (u : U), 0 < m → Sm 8000 m → P f [.int n, .int m] u = .ok (Q (Rat.divInt n m)) u
theorem add_divInt (a b : Rat) : a + b = Rat.divInt (a.num * b.den + b.num * a.den) ((a.den : Int) * b.den) := by
  rw [Rat.add_def', ← Rat.divInt_ofNat, Int.natCast_mul]
theorem sub_divInt (a b : Rat) : a - b = Rat.divInt (a.num * b.den - b.num * a.den) ((a.den : Int) * b.den) := by
  rw [Rat.sub_def', ← Rat.divInt_ofNat, Int.natCast_mul]
theorem mul_divInt (a b : Rat) : a * b = Rat.divInt (a.num * b.num) ((a.den : Int) * b.den) := by
  rw [Rat.mul_def', ← Rat.divInt_ofNat, Int.natCast_mul]
theorem div_divInt (a : Rat) {n : Int} (h : 0 < n) : a / (n : Rat) = Rat.divInt a.num ((a.den : Int) * n) := by
  have e : (Rat.divInt a.num a.den) * (Rat.divInt 1 n) = Rat.divInt (a.num * 1) ((a.den : Int) * n) := Rat.divInt_mul_divInt _ _
  rw [Int.mul_one, Rat.num_divInt_den, Rat.divInt_eq_div 1 n] at e
  rw [← e, Rat.div_def, Rat.div_def]
  congr 1
  exact (Rat.one_mul _).symm
section
variable (C : Cfg) (P : Phi) {a b : Rat} (u : U) {k f : Nat} (hP : FracP P f) (ha : Qs k a) (hb : Qs k b) (hk : k ≤ 3000)
include hP ha hb hk
theorem sum_run : (denSs C P (sumB f) (startE 2 [Q a, Q b]) u).bind endO = .ok (Q (a + b)) u := by
  have e1 := mulOk_of ha.n hb.d (by omega)
  have e2 := mulOk_of hb.n ha.d (by omega)
  have e3 := mulOk_of ha.d hb.d (by omega)
  have z := hP (a.num * b.den + b.num * a.den) ((a.den : Int) * b.den) u (Int.mul_pos (den_pos a) (den_pos b)) ((ha.d.mul hb.d).mono (by omega))
  rw [← add_divInt] at z
  unfold sumB Q
  dsimp! [mul_ii e1, mul_ii e2, mul_ii e3, z]
  rfl
theorem less_run : (denSs C P (lessB f) (startE 2 [Q a, Q b]) u).bind endO = .ok (Q (a - b)) u := by
  have e1 := mulOk_of ha.n hb.d (by omega)
  have e2 := mulOk_of hb.n ha.d (by omega)
  have e3 := mulOk_of ha.d hb.d (by omega)
  have z := hP (a.num * b.den - b.num * a.den) ((a.den : Int) * b.den) u (Int.mul_pos (den_pos a) (den_pos b)) ((ha.d.mul hb.d).mono (by omega))
  rw [← sub_divInt] at z
  unfold lessB Q
  dsimp! [mul_ii e1, mul_ii e2, mul_ii e3, z]
  rfl
theorem times_run : (denSs C P (timesB f) (startE 2 [Q a, Q b]) u).bind endO = .ok (Q (a * b)) u := by
  have e1 := mulOk_of ha.n hb.n (by omega)
  have e3 := mulOk_of ha.d hb.d (by omega)
  have z := hP (a.num * b.num) ((a.den : Int) * b.den) u (Int.mul_pos (den_pos a) (den_pos b)) ((ha.d.mul hb.d).mono (by omega))
  rw [← mul_divInt] at z
  unfold timesB Q
  dsimp! [mul_ii e1, mul_ii e3, z]
  rfl
end
theorem part_run (C : Cfg) (P : Phi) {a : Rat} {n : Int} (u : U) {k f : Nat} (hP : FracP P f) (ha : Qs k a) (hn : 0 < n) (hb : Sm k n) (hk : k ≤ 3000) : (denSs C P (partB f) (startE 2 [Q a, .int n]) u).bind endO = .ok (Q (a / (n : Rat))) u := by
  have e3 := mulOk_of ha.d hb (by omega)
  have z := hP a.num ((a.den : Int) * n) u (Int.mul_pos (den_pos a) hn) ((ha.d.mul hb).mono (by omega))
  rw [← div_divInt a hn] at z
  unfold partB Q
  dsimp! [mul_ii e3, z]
  rfl
/-! sizes of results -/
theorem Qs_divInt {n m : Int} {k : Nat} (h : 0 < m) (hn : Sm k n) (hm : Sm k m) : Qs k (Rat.divInt n m) := by
  have hg := gcd_pos (n := n) h
  constructor
  · rw [divInt_pos_num h]
    unfold Sm at *
    have := Int.natAbs_ediv_le_natAbs n (Int.gcd n m : Int)
    omega
  · have e := divInt_pos_den (n := n) h
    have h1 : m / (Int.gcd n m : Int) ≤ m := Int.ediv_le_self _ (by omega)
    unfold Sm at hm
    omega
theorem Qs.add {a b : Rat} {k : Nat} (ha : Qs k a) (hb : Qs k b) : Qs (2 * k + 1) (a + b) := by
  rw [add_divInt]
  refine Qs_divInt (Int.mul_pos (den_pos a) (den_pos b)) ?_ ((ha.d.mul hb.d).mono (by omega))
  exact ((ha.n.mul hb.d).add (hb.n.mul ha.d) (by omega)).mono (by omega)
theorem Qs.sub {a b : Rat} {k : Nat} (ha : Qs k a) (hb : Qs k b) : Qs (2 * k + 1) (a - b) := by
  rw [sub_divInt]
  refine Qs_divInt (Int.mul_pos (den_pos a) (den_pos b)) ?_ ((ha.d.mul hb.d).mono (by omega))
  exact ((ha.n.mul hb.d).sub (hb.n.mul ha.d) (by omega)).mono (by omega)
theorem Qs.mul {a b : Rat} {k : Nat} (ha : Qs k a) (hb : Qs k b) : Qs (2 * k + 1) (a * b) := by
  rw [mul_divInt]
  exact Qs_divInt (Int.mul_pos (den_pos a) (den_pos b)) ((ha.n.mul hb.n).mono (by omega)) ((ha.d.mul hb.d).mono (by omega))
theorem Qs.div {a : Rat} {n : Int} {k : Nat} (ha : Qs k a) (hn : 0 < n) (hb : Sm k n) : Qs (2 * k + 1) (a / (n : Rat)) := by
  rw [div_divInt a hn]
  exact Qs_divInt (Int.mul_pos (den_pos a) hn) (ha.n.mono (by omega)) ((ha.d.mul hb).mono (by omega))
theorem Qs.int {n : Int} {k : Nat} (h : Sm k n) (hk : 1 ≤ k) : Qs k (n : Rat) := by
  refine ⟨h, ?_⟩
  show 1 < 2 ^ k
  exact Nat.one_lt_two_pow (by omega)
end Lv

end Part_Pl1

section Part_Pl2
set_option maxRecDepth 100000
/-! Pl2: loops by invariants; the law's own fractions; draws. -/
namespace Lv
open PySem
theorem forRun_wp {body : D → Env → M Out} {Q : Out → U → Prop} (Inv : Nat → Env → U → Prop) {ds : List D} {env : Env} {u : U} (h0 : Inv 0 env u)
    (step : ∀ i d env u, ds[i]? = some d → Inv i env u → Wp (body d env u) fun o u' => match o with | .nxt e => Inv (i + 1) e u' | .cnt e => Inv (i + 1) e u' | .brk e => Q (.nxt e) u' | .ret x => Q (.ret x) u')
    (hd : ∀ env u, Inv ds.length env u → Q (.nxt env) u) : Wp (forRun body ds env u) Q := by
  induction ds generalizing env u Inv with
  | nil => exact hd env u h0
  | cons d ds ih =>
    refine Wp.bind ((step 0 d env u rfl h0).mono fun o u' h => ?_)
    cases o with
    | nxt e => exact ih (fun i => Inv (i + 1)) h (fun i d env u hi => step (i + 1) d env u (by simpa using hi)) hd
    | cnt e => exact ih (fun i => Inv (i + 1)) h (fun i d env u hi => step (i + 1) d env u (by simpa using hi)) hd
    | brk e => exact h
    | ret x => exact h
theorem lcRun_wp {body : D → M (Option D)} {Q : List D → U → Prop} (Inv : Nat → List D → U → Prop) {ds : List D} {u : U} {acc : List D} (h0 : Inv 0 acc u)
    (step : ∀ i d acc u, ds[i]? = some d → Inv i acc u → Wp (body d u) fun o u' => Inv (i + 1) (match o with | some y => acc ++ [y] | none => acc) u')
    (hd : ∀ acc u, Inv ds.length acc u → Q acc u) : Wp (lcRun body ds u) fun r u' => Q (acc ++ r) u' := by
  induction ds generalizing acc u Inv with
  | nil =>
    show Q (acc ++ []) u
    rw [List.append_nil]
    exact hd acc u h0
  | cons d ds ih =>
    refine Wp.bind ((step 0 d acc u rfl h0).mono fun o u' h => ?_)
    refine Wp.bind ((ih (fun i => Inv (i + 1)) h (fun i d acc u hi => step (i + 1) d acc u (by simpa using hi)) hd).mono fun r u2 h2 => ?_)
    cases o with
    | none => exact h2
    | some y =>
      show Q (acc ++ (y :: r)) u2
      have e : acc ++ (y :: r) = (acc ++ [y]) ++ r := by simp
      rw [e]; exact h2
/-! ### the law's own fractions -/
def lawPartB : CSs := (.cons (.ifs (.cmp .lt (.v (.loc 1)) (.v (.cst (.int 0)))) (.cons (.par (.val (.nm 0) (.bin .sub (.cst (.int 0)) (.loc 0)) (.val (.nm 1) (.bin .sub (.cst (.int 0)) (.loc 1)) .nil))) .nil) .nil) (.cons (.par (.val (.nm 2) (.bi .abs (.cons (.v (.loc 0)) .nil)) (.val (.nm 3) (.loc 1) .nil))) (.cons (.whl (.cmp .gt (.v (.loc 3)) (.v (.cst (.int 0)))) (.cons (.par (.val (.nm 2) (.loc 3) (.val (.nm 3) (.bin .mod (.bi .int (.cons (.v (.loc 2)) .nil)) (.loc 3)) .nil))) .nil)) (.cons (.ret (.tup (.cons (.bin .fdiv (.loc 0) (.loc 2)) (.cons (.bin .fdiv (.loc 1) (.loc 2)) .nil)))) .nil))))
def eucC : CE := .cmp .gt (.v (.loc 3)) (.v (.cst (.int 0)))
def eucB : CSs := (.cons (.par (.val (.nm 2) (.loc 3) (.val (.nm 3) (.bin .mod (.bi .int (.cons (.v (.loc 2)) .nil)) (.loc 3)) .nil))) .nil)
theorem startE_42 (a b : D) : startE 4 [a, b] = [.val a, .val b, .no, .no] := rfl
theorem euc_run (C : Cfg) (P : Phi) (x y : Sl) (u : U) : ∀ (b a : Nat), ∃ k, whileN (whlB C P eucC eucB) k [x, y, .val (.int a), .val (.int b)] u = some (.ok (.nxt [x, y, .val (.int (Nat.gcd a b)), .val (.int 0)]) u) := by
  intro b
  induction b using Nat.strongRecOn with
  | ind b ih =>
    intro a
    by_cases hb : b = 0
    · subst hb
      refine ⟨1, ?_⟩
      unfold whileN
      have e : whlB C P eucC eucB [x, y, .val (.int a), .val (.int (0 : Nat))] u = .ok none u := by
        unfold whlB eucC
        have hd : decide ((0 : Int) < ((0 : Nat) : Int)) = false := by decide
        dsimp! [hd]
      rw [e, Nat.gcd_zero_right]
      rfl
    · have hlt : a % b < b := Nat.mod_lt _ (by omega)
      obtain ⟨k, hk⟩ := ih (a % b) hlt b
      refine ⟨k + 1, ?_⟩
      unfold whileN
      have e : whlB C P eucC eucB [x, y, .val (.int a), .val (.int b)] u = .ok (some (.nxt [x, y, .val (.int b), .val (.int ((a % b : Nat) : Int))])) u := by
        unfold whlB eucC eucB
        have hd : decide ((0 : Int) < (b : Int)) = true := decide_eq_true (by omega)
        dsimp! [hd, mod_ii (i := (a : Int)) (j := (b : Int)) (by omega)]
        rw [Int.natCast_emod]
      rw [e]
      have g : Nat.gcd b (a % b) = Nat.gcd a b := by rw [Nat.gcd_comm b, ← Nat.gcd_rec, Nat.gcd_comm]
      rw [g] at hk
      exact hk
theorem lawPart_run (C : Cfg) (P : Phi) (n m : Int) (u : U) (h : 0 < m) (hm : Sm 8000 m) : (denSs C P lawPartB (startE 4 [.int n, .int m]) u).bind endO = .ok (Q (Rat.divInt n m)) u := by
  have hg := gcd_sm (n := n) h hm
  have hp := gcd_pos (n := n) h
  have hd : decide (m < 0) = false := decide_eq_false (by omega)
  obtain ⟨k, hk⟩ := euc_run C P (.val (.int n)) (.val (.int m)) u m.natAbs n.natAbs
  have ea : (if n < 0 then -n else n) = (n.natAbs : Int) := by split <;> omega
  have em : m = (m.natAbs : Int) := by omega
  have ew : denS C P (.whl eucC eucB) [.val (.int n), .val (.int m), .val (.int n.natAbs), .val (.int m)] u = .ok (.nxt [.val (.int n), .val (.int m), .val (.int (Int.gcd n m : Int)), .val (.int 0)]) u := by
    rw [S_whl]
    refine whileR_eq (n := k) ?_
    rw [← em] at hk
    exact hk
  unfold eucC eucB at ew
  unfold lawPartB
  dsimp! [hd, startE_42, abs_i, ea, ew, fdiv_ii hp (sm_log hg (by decide)), Q_divInt h]
theorem fracP_lawPart {C : Cfg} {fs : List FDef} {f k : Nat} {nm : Str} (h : fs[f]? = some ⟨nm, ["one", "two"], ["one", "two", "low", "high"], lawPartB⟩) : FracP (run C fs (k + 1)) f := by
  intro n m u h0 hm
  rw [run_at h k _ _ rfl]
  exact lawPart_run C _ n m u h0 hm
theorem fracP_frac {C : Cfg} {fs : List FDef} {f k : Nat} {nm : Str} (h : fs[f]? = some ⟨nm, ["number", "under"], ["number", "under", "part"], fracB⟩) : FracP (run C fs (k + 1)) f := by
  intro n m u h0 hm
  rw [run_at h k _ _ rfl]
  exact frac_run C _ n m u h0 hm
/-! ### draws -/
def Wl (n : Nat) (u : U) (c : Nat) : Prop := ∃ a b d : Int, u[c]? = some [.int a, .int b, .int d] ∧ 0 ≤ b ∧ b < 2147483648 ∧ 0 ≤ d ∧ d + n ≤ 2 ^ 60
theorem Wl.mono {n m : Nat} {u : U} {c : Nat} (h : Wl n u c) (hm : m ≤ n) : Wl m u c := by
  obtain ⟨a, b, d, h1, h2, h3, h4, h5⟩ := h
  exact ⟨a, b, d, h1, h2, h3, h4, by omega⟩
def takeB : CSs := (.cons (.ifs (.cmp .gt (.v (.idx (.v (.loc 0)) (.cst (.int 0)))) (.v (.cst (.int 0)))) (.cons (.asg (.tp (.cons (.ix 0 (.cst (.int 0))) (.cons (.nm 2) .nil))) (.bi .divmod (.cons (.v (.idx (.v (.loc 0)) (.cst (.int 0)))) (.cons (.v (.loc 1)) .nil)))) (.cons (.ret (.loc 2)) .nil)) .nil) (.cons (.asg (.ix 0 (.cst (.int 2))) (.bin .add (.idx (.v (.loc 0)) (.cst (.int 2))) (.cst (.int 1)))) (.cons (.asg (.ix 0 (.cst (.int 1))) (.bin .mod (.bi .int (.cons (.v (.bin .add (.bin .add (.bin .mul (.idx (.v (.loc 0)) (.cst (.int 1))) (.cst (.int 39373))) (.bin .mul (.idx (.v (.loc 0)) (.cst (.int 2))) (.cst (.int 30323)))) (.cst (.int 11)))) .nil)) (.cst (.int 2147483543)))) (.cons (.ret (.bin .mod (.bi .int (.cons (.v (.bin .fdiv (.idx (.v (.loc 0)) (.cst (.int 1))) (.cst (.int 128)))) .nil)) (.loc 1))) .nil))))
theorem cell_idx {u : U} {c : Nat} {x y z : D} (h : u[c]? = some [x, y, z]) : idxD u (.cell c) (.int 0) = some x ∧ idxD u (.cell c) (.int 1) = some y ∧ idxD u (.cell c) (.int 2) = some z := by
  refine ⟨?_, ?_, ?_⟩
  all_goals
    have e : seqOf u (.cell c) = some [x, y, z] := h
    unfold idxD
    rw [e]
    rfl
theorem cell_set {u : U} {c : Nat} {x y z d : D} {env : Env} {i : Nat} (h : u[c]? = some [x, y, z]) (he : getS env i = .val (.cell c)) : setD i d env (.int 0) u = .ok env (u.set c [d, y, z]) ∧ setD i d env (.int 1) u = .ok env (u.set c [x, d, z]) ∧ setD i d env (.int 2) u = .ok env (u.set c [x, y, d]) := by
  refine ⟨?_, ?_, ?_⟩
  all_goals
    unfold setD
    rw [he]
    show (match u[c]? with | some ds => _ | none => _) = _
    rw [h]
    rfl
theorem set_get {u : U} {c : Nat} {x y : List D} (h : u[c]? = some x) : (u.set c y)[c]? = some y := by
  rw [List.getElem?_set_self (List.getElem?_eq_some_iff.mp h).1]
theorem divmod_ii (u : U) {i j : Int} (h : 0 < j ∧ j < 1073741824) : Bi.run u .divmod [.int i, .int j] = some (.tup [.int (i / j), .int (i % j)]) := by
  show (if 0 < j ∧ j < 1073741824 then _ else _) = _
  rw [if_pos h]
theorem take_run (C : Cfg) (P : Phi) {n : Nat} {u : U} {c : Nat} {m : Int} (h : Wl (n + 1) u c) (hm : 0 < m) (hm2 : m < 1073741824) :
    Wp ((denSs C P takeB (startE 3 [.cell c, .int m]) u).bind endO) fun r u' => ∃ i, r = .int i ∧ 0 ≤ i ∧ i < m ∧ Wl n u' c := by
  obtain ⟨a, b, d, h1, h2, h3, h4, h5⟩ := h
  obtain ⟨i0, i1, i2⟩ := cell_idx h1
  unfold takeB
  by_cases ha : 0 < a
  · have hd : decide (0 < a) = true := decide_eq_true ha
    obtain ⟨s0, s1, s2⟩ := cell_set (d := .int (a / m)) (env := [.val (.cell c), .val (.int m), .no]) (i := 0) h1 rfl
    dsimp! [i0, hd, divmod_ii u ⟨hm, hm2⟩, s0]
    refine ⟨_, rfl, Int.emod_nonneg _ (by omega), Int.emod_lt_of_pos _ hm, a / m, b, d, set_get h1, h2, h3, h4, by omega⟩
  · have hd : decide (0 < a) = false := decide_eq_false ha
    obtain ⟨s0, s1, s2⟩ := cell_set (d := .int (d + 1)) (env := [.val (.cell c), .val (.int m), .no]) (i := 0) h1 rfl
    have h6 : (u.set c [.int a, .int b, .int (d + 1)])[c]? = some [.int a, .int b, .int (d + 1)] := set_get h1
    obtain ⟨j0, j1, j2⟩ := cell_idx h6
    have e1 : mulOk b 39373 = true := mulOk_of (show Sm 32 b by unfold Sm; omega) (show Sm 32 39373 by unfold Sm; decide) (by decide)
    have e2 : mulOk (d + 1) 30323 = true := mulOk_of (show Sm 61 (d + 1) by unfold Sm; omega) (show Sm 32 30323 by unfold Sm; decide) (by decide)
    obtain ⟨t0, t1, t2⟩ := cell_set (d := .int ((b * 39373 + (d + 1) * 30323 + 11) % 2147483543)) (env := [.val (.cell c), .val (.int m), .no]) (i := 0) h6 rfl
    have h7 := set_get (y := [.int a, .int ((b * 39373 + (d + 1) * 30323 + 11) % 2147483543), .int (d + 1)]) h6
    obtain ⟨k0, k1, k2⟩ := cell_idx h7
    dsimp! [i0, hd, i2, s2, j1, j2, mul_ii e1, mul_ii e2, mod_ii (i := b * 39373 + (d + 1) * 30323 + 11) (j := 2147483543) (by decide), t1, k1, fdiv_ii (i := (b * 39373 + (d + 1) * 30323 + 11) % 2147483543) (j := 128) (by decide) (by decide), mod_ii (i := (b * 39373 + (d + 1) * 30323 + 11) % 2147483543 / 128) hm]
    refine ⟨_, rfl, Int.emod_nonneg _ (by omega), Int.emod_lt_of_pos _ hm, a, _, d + 1, h7, Int.emod_nonneg _ (by decide), ?_, by omega, by omega⟩
    have := Int.emod_lt_of_pos (b * 39373 + (d + 1) * 30323 + 11) (show (0 : Int) < 2147483543 by decide)
    omega
/-- what a draw promises -/
def TakeP (P : Phi) (f : Nat) : Prop := ∀ (n : Nat) (u : U) (c : Nat) (m : Int), Wl (n + 1) u c → 0 < m → m < 1073741824 → Wp (P f [.cell c, .int m] u) fun r u' => ∃ i, r = .int i ∧ 0 ≤ i ∧ i < m ∧ Wl n u' c
theorem takeP_of {C : Cfg} {fs : List FDef} {f k : Nat} {nm : Str} (h : fs[f]? = some ⟨nm, ["well", "many"], ["well", "many", "digit"], takeB⟩) : TakeP (run C fs (k + 1)) f := by
  intro n u c m h1 h2 h3
  rw [run_at h k _ _ rfl]
  exact take_run C _ h1 h2 h3
/-- one of some things -/
def ofB (t : Nat) : CSs := (.cons (.ret (.idx (.v (.loc 1)) (.call t (.cons (.loc 0) (.cons (.bi .len (.cons (.v (.loc 1)) .nil)) .nil))))) .nil)
theorem idx_tup {u : U} {ds : List D} {i : Int} (h : 0 ≤ i) (h2 : i < ds.length) : idxD u (.tup ds) (.int i) = some (ds[i.toNat]'(by omega)) := by
  show atI ds i = _
  unfold atI ixN
  rw [if_pos h, if_pos h2]
  show ds[i.toNat]? = _
  rw [List.getElem?_eq_getElem (by omega)]
theorem of_run (C : Cfg) (P : Phi) {t n : Nat} {u : U} {c : Nat} {ds : List D} (hP : TakeP P t) (h : Wl (n + 1) u c) (hm : 0 < ds.length) (hm2 : ds.length < 1000) :
    Wp ((denSs C P (ofB t) (startE 2 [.cell c, .tup ds]) u).bind endO) fun r u' => r ∈ ds ∧ Wl n u' c := by
  obtain ⟨r, u', e, i, rfl, h1, h2, h3⟩ := (hP n u c ds.length h (by omega) (by omega)).of
  unfold ofB
  dsimp! [e, idx_tup (u := u') h1 h2]
  exact ⟨List.getElem_mem _, h3⟩
end Lv

end Part_Pl2

section Part_Pl3
set_option maxRecDepth 100000
/-! Pl3: the well, sameness. -/
namespace Lv
open PySem
def wellB : CSs := (.cons (.asg (.nm 2) (.ite (.cmp .lt (.v (.loc 1)) (.v (.bi .len (.cons (.v (.loc 0)) .nil)))) (.bi .int (.cons (.v (.idx (.v (.loc 0)) (.loc 1))) .nil)) (.cst (.int 0)))) (.cons (.asg (.nm 3) (.bin .add (.cst (.int 52027)) (.bin .mul (.cst (.int 6971)) (.loc 1)))) (.cons (.for_ (.nm 4) (.seq (.v (.fr (.cat (.v (.fr (.sl (.v (.loc 0)) .no (.so (.cst (.int 8)))))) (.v (.fr (.disp (.cons (.loc 2) .nil)))))))) (.cons (.asg (.nm 3) (.bin .mod (.bi .int (.cons (.v (.bin .add (.bin .add (.bin .mul (.loc 3) (.cst (.int 44497))) (.bin .mod (.bi .int (.cons (.v (.loc 4)) .nil)) (.cst (.int 2147483587)))) (.cst (.int 29)))) .nil)) (.cst (.int 2147483563)))) .nil)) (.cons (.ret (.newc (.cons (.ite (.orv (.cons (.cmp .lt (.v (.loc 2)) (.v (.cst (.int 0)))) (.cons (.cmp .ge (.v (.loc 2)) (.v (.bin .pow (.cst (.int 10)) (.cst (.int 18))))) .nil))) (.bi .abs (.cons (.v (.loc 2)) .nil)) (.cst (.int 0))) (.cons (.loc 3) (.cons (.cst (.int 0)) .nil))))) .nil))))
theorem len_scr (u : U) (ns : List Int) : Bi.run u .len [.scr ns] = some (.int ns.length) := nr rfl
theorem startE_52 (a b : D) : startE 5 [a, b] = [.val a, .val b, .no, .no, .no] := rfl
theorem pow_1018 : BinO.run .pow (.int 10) (.int 18) = some (.int 1000000000000000000) := by rfl
theorem cut8 (ns : List Int) (u : U) : slD (.scr ns) none (some 8) u = .ok ((ns.take 8).map D.int) u := by
  show Res.ok (cut (ns.map D.int) none (some 8)) u = _
  congr 1
  unfold cut sIx
  dsimp only
  rw [if_neg (by decide)]
  show List.take (min (8 : Int).toNat (ns.map D.int).length - 0) (List.drop 0 (ns.map D.int)) = _
  rw [List.drop_zero, Nat.sub_zero, List.length_map, List.map_take, show (8 : Int).toNat = 8 from rfl]
  by_cases h : 8 ≤ ns.length
  · rw [Nat.min_eq_left h]
  · rw [Nat.min_eq_right (by omega), List.take_of_length_le (by simp), List.take_of_length_le (by simp; omega)]
theorem well_run (C : Cfg) (P : Phi) {ns : List Int} {lap : Nat} (u : U) (hn : ns.length ≤ 1000) (hl : lap < 1000) : Wp ((denSs C P wellB (startE 5 [.scr ns, .int lap]) u).bind endO) fun r u' => r = .cell u.length ∧ Wl 1000000 u' u.length := by
  -- the number of the lap
  have own : ∀ u, ∃ o : Int, denE C P (.ite (.cmp .lt (.v (.loc 1)) (.v (.bi .len (.cons (.v (.loc 0)) .nil)))) (.bi .int (.cons (.v (.idx (.v (.loc 0)) (.loc 1))) .nil)) (.cst (.int 0))) [.val (.scr ns), .val (.int lap), .no, .no, .no] u = .ok (.int o) u := by
    intro u
    by_cases h : lap < ns.length
    · have hd : decide ((lap : Int) < (ns.length : Int)) = true := decide_eq_true (by omega)
      have e : idxD u (.scr ns) (.int (lap : Int)) = some (.int (ns[lap]'h)) := by
        show atI (ns.map D.int) (lap : Int) = _
        unfold atI ixN
        rw [if_pos (by omega), if_pos (by rw [List.length_map]; omega)]
        show (ns.map D.int)[lap]? = _
        rw [List.getElem?_map, List.getElem?_eq_getElem h]
        rfl
      exact ⟨ns[lap], by dsimp! [len_scr, hd, e]⟩
    · have hd : decide ((lap : Int) < (ns.length : Int)) = false := decide_eq_false (by omega)
      exact ⟨0, by dsimp! [len_scr, hd]⟩
  obtain ⟨o, ho⟩ := own u
  have e1 : mulOk 6971 (lap : Int) = true := mulOk_of (show Sm 32 6971 by unfold Sm; decide) (show Sm 32 (lap : Int) by unfold Sm; omega) (by decide)
  unfold wellB
  rw [Ss_cons, S_asg, startE_52, ho]
  dsimp! [mul_ii e1, S_for, cut8]
  have hc : catD (.lst ((ns.take 8).map D.int)) (.lst [.int o]) u = .ok ((ns.take 8).map D.int ++ [.int o]) u := cat_ll (by simp [line]; omega) u
  dsimp! [hc]
  have hi : itsOf (.lst ((ns.take 8).map D.int ++ [.int o])) = some ((ns.take 8 ++ [o]).map D.int) := by rw [List.map_append]; rfl
  dsimp! [hi]
  rw [Res.bind_assoc' ]
  refine Wp.bind ?_
  refine forRun_wp (fun i env u' => u' = u ∧ ∃ s x, env = [.val (.scr ns), .val (.int lap), .val (.int o), .val (.int s), x] ∧ 0 ≤ s ∧ s < 2147483648) ⟨rfl, _, _, rfl, by omega, by omega⟩ ?_ ?_
  · intro i d env u' hd ⟨hu, s, x, he, h1, h2⟩
    subst hu he
    rw [List.getElem?_map] at hd
    obtain ⟨z, hz, rfl⟩ := Option.map_eq_some_iff.mp hd
    have e2 : mulOk s 44497 = true := mulOk_of (show Sm 32 s by unfold Sm; omega) (show Sm 32 44497 by unfold Sm; decide) (by decide)
    unfold forB
    dsimp! [mul_ii e2, mod_ii (i := z) (j := 2147483587) (by decide), mod_ii (i := s * 44497 + z % 2147483587 + 29) (j := 2147483563) (by decide)]
    refine ⟨rfl, _, _, rfl, Int.emod_nonneg _ (by decide), ?_⟩
    have := Int.emod_lt_of_pos (s * 44497 + z % 2147483587 + 29) (show (0 : Int) < 2147483563 by decide)
    omega
  · intro env u' ⟨hu, s, x, he, h1, h2⟩
    subst hu he
    have fin : ∀ a : Int, Wl 1000000 (u' ++ [[.int a, .int s, .int 0]]) u'.length := fun a => ⟨a, s, 0, by simp, h1, h2, by decide, by decide⟩
    dsimp! [E_newc, pow_1018, abs_i]
    by_cases c1 : o < 0
    · dsimp! [c1]
      exact ⟨rfl, fin _⟩
    · by_cases c2 : 1000000000000000000 ≤ o
      · dsimp! [c1, c2, pow_1018, abs_i]
        exact ⟨rfl, fin _⟩
      · dsimp! [c1, c2, pow_1018, abs_i]
        exact ⟨rfl, fin _⟩
end Lv

end Part_Pl3

section Part_Pl4
set_option maxRecDepth 100000
set_option maxHeartbeats 1000000
/-! Pl4: sameness of what is alike. -/
namespace Lv
open PySem
inductive Pn : Nat → D → Prop
  | non (n : Nat) : Pn n .non
  | bl (n : Nat) (b : Bool) : Pn n (.bl b)
  | int (n : Nat) (i : Int) : Pn n (.int i)
  | str (n : Nat) (x : Str) : SeqAt.shaped (.str x) = true → Pn n (.str x)
  | tup {n : Nat} {ds : List D} : (∀ d ∈ ds, Pn n d) → ds.length ≤ 1000000 → Pn (n + 1) (.tup ds)
  | lst {n : Nat} {ds : List D} : (∀ d ∈ ds, Pn n d) → ds.length ≤ 1000000 → Pn (n + 1) (.lst ds)
theorem Pn.mono {n m : Nat} {d : D} (h : Pn n d) (hm : n ≤ m) : Pn m d := by
  induction h generalizing m with
  | non => exact .non _
  | bl => exact .bl _ _
  | int => exact .int _ _
  | str _ _ h => exact .str _ _ h
  | tup h1 h2 ih =>
    obtain ⟨m', rfl⟩ : ∃ m', m = m' + 1 := ⟨m - 1, by omega⟩
    exact .tup (fun d hd => ih d hd (by omega)) h2
  | lst h1 h2 ih =>
    obtain ⟨m', rfl⟩ : ∃ m', m = m' + 1 := ⟨m - 1, by omega⟩
    exact .lst (fun d hd => ih d hd (by omega)) h2
def allB (f : Nat) : CE := (.andv (.cons (.cmp .eq (.v (.bi .len (.cons (.v (.loc 0)) .nil))) (.v (.bi .len (.cons (.v (.loc 1)) .nil)))) (.cons (.bi .all (.cons (.v (.fr (.lc (.call f (.cons (.idx (.v (.loc 0)) (.loc 2)) (.cons (.idx (.v (.loc 1)) (.loc 2)) .nil))) [2] (.nm 2) (.rng1 (.bi .len (.cons (.v (.loc 1)) .nil))) .nil))) .nil)) .nil)))
def sameB (f : Nat) : CSs := (.cons (.ifs (.orv (.cons (.andv (.cons (.isi (.loc 1) [.tuple] true) (.cons (.notv (.isi (.loc 0) [.tuple] true)) .nil))) (.cons (.andv (.cons (.isi (.loc 1) [.list] true) (.cons (.notv (.isi (.loc 0) [.list] true)) .nil))) .nil))) (.cons (.ret (.cst (.bl false))) .nil) .nil) (.cons (.ifs (.isi (.loc 1) [.tuple, .list] false) (.cons (.ret (allB f)) .nil) .nil) (.cons (.ifs (.orv (.cons (.cmp .is_ (.v (.loc 1)) (.v (.cst .non))) (.cons (.cmp .is_ (.v (.loc 0)) (.v (.cst .non))) .nil))) (.cons (.ret (.andv (.cons (.cmp .is_ (.v (.loc 1)) (.v (.cst .non))) (.cons (.cmp .is_ (.v (.loc 0)) (.v (.cst .non))) .nil)))) .nil) .nil) (.cons (.ifs (.orv (.cons (.isi (.loc 1) [.bool] true) (.cons (.isi (.loc 0) [.bool] true) .nil))) (.cons (.ret (.andv (.cons (.isi (.loc 1) [.bool] true) (.cons (.isi (.loc 0) [.bool] true) (.cons (.cmp .eq (.v (.loc 1)) (.v (.loc 0))) .nil))))) .nil) .nil) (.cons (.ifs (.isi (.loc 1) [.int] true) (.cons (.ret (.andv (.cons (.isi (.loc 0) [.int] true) (.cons (.cmp .eq (.v (.loc 0)) (.v (.loc 1))) .nil)))) .nil) .nil) (.cons (.ifs (.isi (.loc 1) [.str] true) (.cons (.ret (.andv (.cons (.isi (.loc 0) [.str] true) (.cons (.cmp .eq (.v (.loc 0)) (.v (.loc 1))) .nil)))) .nil) .nil) (.cons (.ret (.andv (.cons (.isi (.loc 1) [.dict] true) (.cons (.isi (.loc 0) [.dict] true) (.cons (.cmp .eq (.v (.bi .len (.cons (.v (.loc 0)) .nil))) (.v (.bi .len (.cons (.v (.loc 1)) .nil)))) (.cons (.cmp .eq (.v (.loc 0)) (.v (.loc 1))) .nil)))))) .nil)))))))
theorem eq_ii (i j : Int) : CmpO.run .eq (.int i) (.int j) = some (decide (i = j)) := by
  show (if (SeqAt.shaped (.int i) && SeqAt.shaped (.int j)) = true then some (PyData.eqv (.int i) (.int j)) else none) = _
  exact (if_pos (show (SeqAt.shaped (.int i) && SeqAt.shaped (.int j)) = true from rfl)).trans rfl
theorem eq_bb (i j : Bool) : CmpO.run .eq (.bl i) (.bl j) = some (decide (i = j)) := by
  cases i <;> cases j <;> rfl
theorem eq_ss (i : Str) (hs : SeqAt.shaped (.str i) = true) : CmpO.run .eq (.str i) (.str i) = some true := by
  show (if (SeqAt.shaped (.str i) && SeqAt.shaped (.str i)) = true then some (PyData.eqv (.str i) (.str i)) else none) = _
  exact (if_pos (show (SeqAt.shaped (.str i) && SeqAt.shaped (.str i)) = true by rw [hs]; rfl)).trans (congrArg some (beq_self_eq_true i))
theorem startE_321 (a b : D) : startE 3 [a, b] = [.val a, .val b, .no] := rfl
theorem rng1_nat {n : Nat} (h : n ≤ 1000000) : rng1D (.int n) = some ((List.range n).map fun (i : Nat) => D.int i) := by
  show (if rngOk (n : Int) = true then some (rngL 0 n) else none) = _
  rw [if_pos (by unfold rngOk; simp; omega)]
  unfold rngL
  rw [Int.sub_zero, Int.toNat_natCast]
  congr 1
  refine List.map_congr_left fun i _ => ?_
  rw [Int.zero_add]
theorem all_lst (u : U) (bs : List Bool) : Bi.run u .all [.lst (bs.map D.bl)] = some (.bl (bs.all id)) := by
  show (match blsOf (bs.map D.bl) with | some bs => some (D.bl (bs.all id)) | none => none) = _
  have e : blsOf (bs.map D.bl) = some bs := by
    induction bs with
    | nil => rfl
    | cons b bs ih => show (match blsOf (bs.map D.bl) with | some l => some (b :: l) | none => none) = _; rw [ih]
  rw [e]
theorem any_lst (u : U) (bs : List Bool) : Bi.run u .any [.lst (bs.map D.bl)] = some (.bl (bs.any id)) := by
  show (match blsOf (bs.map D.bl) with | some bs => some (D.bl (bs.any id)) | none => none) = _
  have e : blsOf (bs.map D.bl) = some bs := by
    induction bs with
    | nil => rfl
    | cons b bs ih => show (match blsOf (bs.map D.bl) with | some l => some (b :: l) | none => none) = _; rw [ih]
  rw [e]
theorem idx_tup' {u : U} {ds : List D} {i : Nat} (h : i < ds.length) : idxD u (.tup ds) (.int i) = some ds[i] := by
  rw [idx_tup (by omega) (by omega)]
  rfl
theorem idx_lst' {u : U} {ds : List D} {i : Nat} (h : i < ds.length) : idxD u (.lst ds) (.int i) = some ds[i] := idx_tup' (u := u) h
theorem all_run {C : Cfg} {P : Phi} {f : Nat} {ds : List D} {d : D} (u : U) (hd : d = .tup ds ∨ d = .lst ds) (ih : ∀ x ∈ ds, P f [x, x] u = .ok (.bl true) u) (hl : ds.length ≤ 1000000) :
    denE C P (allB f) [.val d, .val d, .no] u = .ok (.bl true) u := by
  have hlen : Bi.run u .len [d] = some (.int ds.length) := by rcases hd with rfl | rfl <;> rfl
  have hidx : ∀ i (hi : i < ds.length), idxD u d (.int (i : Nat)) = some ds[i] := by
    intro i hi
    rcases hd with rfl | rfl
    · exact idx_tup' hi
    · exact idx_lst' hi
  have key : lcRun (lcB C P (.call f (.cons (.idx (.v (.loc 0)) (.loc 2)) (.cons (.idx (.v (.loc 1)) (.loc 2)) .nil))) [2] (.nm 2) .nil [.val d, .val d, .no]) ((List.range ds.length).map fun (i : Nat) => D.int i) u = .ok (((List.range ds.length).map fun (i : Nat) => D.int i).map fun _ => .bl true) u := by
    refine lcRun_map fun x hx => ?_
    obtain ⟨i, hi, rfl⟩ := List.mem_map.mp hx
    have hi := List.mem_range.mp hi
    unfold lcB
    have hw : wipeS [.val d, .val d, .no] [2] = [.val d, .val d, .no] := rfl
    dsimp! [hw, hidx i hi, ih _ (List.getElem_mem hi)]
  have hle : ((List.range ds.length).map fun (i : Nat) => D.int i).length ≤ line := by
    rw [List.length_map, List.length_range]
    unfold line
    omega
  have hI : denI C P (.rng1 (.bi .len (.cons (.v (.loc 1)) .nil))) [.val d, .val d, .no] u = .ok ((List.range ds.length).map fun (i : Nat) => D.int i) u := by
    dsimp! [hlen, rng1_nat hl]
  have hF := lc_run hI hle key
  have hq : CmpO.run .eq (.int (ds.length : Int)) (.int (ds.length : Int)) = some true := by rw [eq_ii, decide_eq_true rfl]
  unfold allB
  dsimp! [hlen, hq, hF]
  have e2 : (((List.range ds.length).map fun (i : Nat) => D.int i).map fun _ => D.bl true) = ((List.range ds.length).map fun _ => true).map D.bl := by rw [List.map_map, List.map_map]; rfl
  rw [e2]
  have e3 : ((List.range ds.length).map fun _ => true).all id = true := by simp
  dsimp! [all_lst, e3]
section
variable {C : Cfg} {P : Phi} {f : Nat} (u : U)
theorem same_non : (denSs C P (sameB f) (startE 3 [.non, .non]) u).bind endO = .ok (.bl true) u := by
  have a1 : isAny [.tuple] .non = some false := rfl
  have a2 : isAny [.list] .non = some false := rfl
  have a3 : isAny [.tuple, .list] .non = some false := rfl
  have a4 : CmpO.run .is_ .non .non = some true := rfl
  unfold sameB
  dsimp! [startE_321, a1, a2, a3, a4]
theorem same_bl (b : Bool) : (denSs C P (sameB f) (startE 3 [.bl b, .bl b]) u).bind endO = .ok (.bl true) u := by
  have a1 : isAny [.tuple] (.bl b) = some false := rfl
  have a2 : isAny [.list] (.bl b) = some false := rfl
  have a3 : isAny [.tuple, .list] (.bl b) = some false := rfl
  have a4 : CmpO.run .is_ (.bl b) .non = some false := rfl
  have a5 : isAny [.bool] (.bl b) = some true := rfl
  have a6 : CmpO.run .eq (.bl b) (.bl b) = some true := by rw [eq_bb]; simp
  unfold sameB
  dsimp! [startE_321, a1, a2, a3, a4, a5, a6]
theorem same_int (b : Int) : (denSs C P (sameB f) (startE 3 [.int b, .int b]) u).bind endO = .ok (.bl true) u := by
  have a1 : isAny [.tuple] (.int b) = some false := rfl
  have a2 : isAny [.list] (.int b) = some false := rfl
  have a3 : isAny [.tuple, .list] (.int b) = some false := rfl
  have a4 : CmpO.run .is_ (.int b) .non = some false := rfl
  have a5 : isAny [.bool] (.int b) = some false := rfl
  have a6 : isAny [.int] (.int b) = some true := rfl
  have a7 : CmpO.run .eq (.int b) (.int b) = some true := by rw [eq_ii]; simp
  unfold sameB
  dsimp! [startE_321, a1, a2, a3, a4, a5, a6, a7]
theorem same_str (b : Str) (hs : SeqAt.shaped (.str b) = true) : (denSs C P (sameB f) (startE 3 [.str b, .str b]) u).bind endO = .ok (.bl true) u := by
  have a1 : isAny [.tuple] (.str b) = some false := rfl
  have a2 : isAny [.list] (.str b) = some false := rfl
  have a3 : isAny [.tuple, .list] (.str b) = some false := rfl
  have a4 : CmpO.run .is_ (.str b) .non = some false := rfl
  have a5 : isAny [.bool] (.str b) = some false := rfl
  have a6 : isAny [.int] (.str b) = some false := rfl
  have a7 : isAny [.str] (.str b) = some true := rfl
  unfold sameB
  dsimp! [startE_321, a1, a2, a3, a4, a5, a6, a7, eq_ss b hs]
theorem same_tup {ds : List D} (ih : ∀ x ∈ ds, P f [x, x] u = .ok (.bl true) u) (hl : ds.length ≤ 1000000) : (denSs C P (sameB f) (startE 3 [.tup ds, .tup ds]) u).bind endO = .ok (.bl true) u := by
  have a1 : isAny [.tuple] (.tup ds) = some true := rfl
  have a2 : isAny [.list] (.tup ds) = some false := rfl
  have a3 : isAny [.tuple, .list] (.tup ds) = some true := rfl
  have z := all_run (C := C) (P := P) (d := .tup ds) u (.inl rfl) ih hl
  unfold sameB
  dsimp! [startE_321, a1, a2, a3, z, Bool.not_true]
theorem same_lst {ds : List D} (ih : ∀ x ∈ ds, P f [x, x] u = .ok (.bl true) u) (hl : ds.length ≤ 1000000) : (denSs C P (sameB f) (startE 3 [.lst ds, .lst ds]) u).bind endO = .ok (.bl true) u := by
  have a1 : isAny [.tuple] (.lst ds) = some false := rfl
  have a2 : isAny [.list] (.lst ds) = some true := rfl
  have a3 : isAny [.tuple, .list] (.lst ds) = some true := rfl
  have z := all_run (C := C) (P := P) (d := .lst ds) u (.inr rfl) ih hl
  unfold sameB
  dsimp! [startE_321, a1, a2, a3, z, Bool.not_true]
end
theorem same_run {C : Cfg} {fs : List FDef} {f : Nat} {nm : Str} (h : fs[f]? = some ⟨nm, ["told", "due"], ["told", "due", "at"], sameB f⟩) {n : Nat} {d : D} (hp : Pn n d) : ∀ k u, run C fs (k + n + 1) f [d, d] u = .ok (.bl true) u := by
  induction hp with
  | non n => intro k u; rw [run_at h _ _ _ rfl]; exact same_non u
  | bl n b => intro k u; rw [run_at h _ _ _ rfl]; exact same_bl u b
  | int n b => intro k u; rw [run_at h _ _ _ rfl]; exact same_int u b
  | str n b hs => intro k u; rw [run_at h _ _ _ rfl]; exact same_str u b hs
  | @tup n ds h1 h2 ih => intro k u; rw [run_at h _ _ _ rfl]; exact same_tup u (fun x hx => ih x hx k u) h2
  | @lst n ds h1 h2 ih => intro k u; rw [run_at h _ _ _ rfl]; exact same_lst u (fun x hx => ih x hx k u) h2
end Lv

end Part_Pl4

section Part_Pl5
set_option maxRecDepth 100000
set_option maxHeartbeats 1000000
/-! Pl5: the stepper that keeps to the head; comprehensions and loops by rewriting. -/
namespace Lv
open PySem
theorem Res.bind_congr {α β : Type} {r r' : Res α} {f : α → M β} (h : r = r') : r.bind f = r'.bind f := by rw [h]
theorem Wp_congr {α : Type} {r r' : Res α} {Q : α → U → Prop} (h : r = r') : Wp r Q = Wp r' Q := by rw [h]
theorem Wp_ok {α : Type} (a : α) (u : U) (Q : α → U → Prop) : Wp (.ok a u) Q = Q a u := nr rfl
theorem Wp_eq {α : Type} {r : Res α} {a : α} {u : U} (h : Wp r fun x v => x = a ∧ v = u) : r = .ok a u := by
  cases r with
  | ok b v => obtain ⟨h1, h2⟩ := h; subst h1 h2; rfl
  | exc c b v => exact h.elim
  | bad => exact h.elim
theorem Wp_of_eq {α : Type} {r : Res α} {a : α} {u : U} (h : r = .ok a u) {Q : α → U → Prop} (q : Q a u) : Wp r Q := by subst h; exact q
/-! ### continuations with names -/
noncomputable def kOp (o : BinO) (x : D) : D → M D := fun y u => lift (o.run x y) u
theorem kOp_ap (o : BinO) (x : D) : ∀ y u, kOp o x y u = lift (o.run x y) u := fun y u => nr rfl
noncomputable def kBin (C : Cfg) (P : Phi) (o : BinO) (b : CE) (env : Env) : D → M D := fun x u => (denE C P b env u).bind (kOp o x)
theorem kBin_ap (C : Cfg) (P : Phi) (o : BinO) (b : CE) (env : Env) : ∀ x u, kBin C P o b env x u = (denE C P b env u).bind (kOp o x) := fun x u => nr rfl
noncomputable def kNotB : Bool → M D := fun b u => .ok (.bl (!b)) u
theorem kNotB_ap : ∀ b u, kNotB b u = .ok (.bl (!b)) u := fun b u => nr rfl
noncomputable def kNot : D → M D := fun d u => (asBl d u).bind kNotB
theorem kNot_ap : ∀ d u, kNot d u = (asBl d u).bind kNotB := fun d u => nr rfl
noncomputable def kBl : Bool → M D := fun c u => .ok (.bl c) u
theorem kBl_ap : ∀ c u, kBl c u = .ok (.bl c) u := fun c u => nr rfl
noncomputable def kCmpO (o : CmpO) (x : D) : D → M D := fun y u => (lift (o.run x y) u).bind kBl
theorem kCmpO_ap (o : CmpO) (x : D) : ∀ y u, kCmpO o x y u = (lift (o.run x y) u).bind kBl := fun y u => nr rfl
noncomputable def kCmp (C : Cfg) (P : Phi) (o : CmpO) (b : Op) (env : Env) : D → M D := fun x u => (denO C P b env u).bind (kCmpO o x)
theorem kCmp_ap (C : Cfg) (P : Phi) (o : CmpO) (b : Op) (env : Env) : ∀ x u, kCmp C P o b env x u = (denO C P b env u).bind (kCmpO o x) := fun x u => nr rfl
noncomputable def kC2d (C : Cfg) (P : Phi) (o2 : CmpO) (c : CE) (env : Env) (y : D) : M D := fun u => (denE C P c env u).bind (kCmpO o2 y)
theorem kC2d_ap (C : Cfg) (P : Phi) (o2 : CmpO) (c : CE) (env : Env) (y : D) : ∀ u, kC2d C P o2 c env y u = (denE C P c env u).bind (kCmpO o2 y) := fun u => nr rfl
noncomputable def kC2c (C : Cfg) (P : Phi) (o2 : CmpO) (c : CE) (env : Env) (y : D) : Bool → M D := fun t u => (if t = true then kC2d C P o2 c env y else ret (.bl false)) u
theorem kC2c_ap (C : Cfg) (P : Phi) (o2 : CmpO) (c : CE) (env : Env) (y : D) : ∀ t u, kC2c C P o2 c env y t u = (if t = true then kC2d C P o2 c env y else ret (.bl false)) u := fun t u => nr rfl
noncomputable def kC2b (C : Cfg) (P : Phi) (o o2 : CmpO) (c : CE) (env : Env) (x : D) : D → M D := fun y u => (lift (o.run x y) u).bind (kC2c C P o2 c env y)
theorem kC2b_ap (C : Cfg) (P : Phi) (o o2 : CmpO) (c : CE) (env : Env) (x : D) : ∀ y u, kC2b C P o o2 c env x y u = (lift (o.run x y) u).bind (kC2c C P o2 c env y) := fun y u => nr rfl
noncomputable def kC2 (C : Cfg) (P : Phi) (o o2 : CmpO) (b c : CE) (env : Env) : D → M D := fun x u => (denE C P b env u).bind (kC2b C P o o2 c env x)
theorem kC2_ap (C : Cfg) (P : Phi) (o o2 : CmpO) (b c : CE) (env : Env) : ∀ x u, kC2 C P o o2 b c env x u = (denE C P b env u).bind (kC2b C P o o2 c env x) := fun x u => nr rfl
noncomputable def kIteB (C : Cfg) (P : Phi) (a b : CE) (env : Env) : Bool → M D := fun t u => (if t = true then denE C P a env else denE C P b env) u
theorem kIteB_ap (C : Cfg) (P : Phi) (a b : CE) (env : Env) : ∀ t u, kIteB C P a b env t u = (if t = true then denE C P a env else denE C P b env) u := fun t u => nr rfl
noncomputable def kIte (C : Cfg) (P : Phi) (a b : CE) (env : Env) : D → M D := fun d u => (asBl d u).bind (kIteB C P a b env)
theorem kIte_ap (C : Cfg) (P : Phi) (a b : CE) (env : Env) : ∀ d u, kIte C P a b env d u = (asBl d u).bind (kIteB C P a b env) := fun d u => nr rfl
noncomputable def kTup : List D → M D := fun ds u => .ok (.tup ds) u
theorem kTup_ap : ∀ ds u, kTup ds u = .ok (.tup ds) u := fun ds u => nr rfl
noncomputable def kNewc : List D → M D := fun ds u => .ok (.cell u.length) (u ++ [ds])
theorem kNewc_ap : ∀ ds u, kNewc ds u = .ok (.cell u.length) (u ++ [ds]) := fun ds u => nr rfl
noncomputable def kIdxO (x : D) : D → M D := fun y u => lift (idxD u x y) u
theorem kIdxO_ap (x : D) : ∀ y u, kIdxO x y u = lift (idxD u x y) u := fun y u => nr rfl
noncomputable def kIdx (C : Cfg) (P : Phi) (i : CE) (env : Env) : D → M D := fun x u => (denE C P i env u).bind (kIdxO x)
theorem kIdx_ap (C : Cfg) (P : Phi) (i : CE) (env : Env) : ∀ x u, kIdx C P i env x u = (denE C P i env u).bind (kIdxO x) := fun x u => nr rfl
noncomputable def kSl3 (x : D) (l : Option Int) : Option Int → M D := fun h u => slTD x l h u
theorem kSl3_ap (x : D) (l : Option Int) : ∀ h u, kSl3 x l h u = slTD x l h u := fun h u => nr rfl
noncomputable def kSl2 (C : Cfg) (P : Phi) (hi : OpB) (env : Env) (x : D) : Option Int → M D := fun l u => (denB C P hi env u).bind (kSl3 x l)
theorem kSl2_ap (C : Cfg) (P : Phi) (hi : OpB) (env : Env) (x : D) : ∀ l u, kSl2 C P hi env x l u = (denB C P hi env u).bind (kSl3 x l) := fun l u => nr rfl
noncomputable def kSl1 (C : Cfg) (P : Phi) (lo hi : OpB) (env : Env) : D → M D := fun x u => (denB C P lo env u).bind (kSl2 C P hi env x)
theorem kSl1_ap (C : Cfg) (P : Phi) (lo hi : OpB) (env : Env) : ∀ x u, kSl1 C P lo hi env x u = (denB C P lo env u).bind (kSl2 C P hi env x) := fun x u => nr rfl
noncomputable def kCK2 (C : Cfg) (P : Phi) (f j : Nat) (a : List D) : List D → M D := fun b u => (lift (permOf C j (a ++ b)) u).bind (P f)
theorem kCK2_ap (C : Cfg) (P : Phi) (f j : Nat) (a : List D) : ∀ b u, kCK2 C P f j a b u = (lift (permOf C j (a ++ b)) u).bind (P f) := fun b u => nr rfl
noncomputable def kCK (C : Cfg) (P : Phi) (f j : Nat) (ks : CEs) (env : Env) : List D → M D := fun a u => (denEs C P ks env u).bind (kCK2 C P f j a)
theorem kCK_ap (C : Cfg) (P : Phi) (f j : Nat) (ks : CEs) (env : Env) : ∀ a u, kCK C P f j ks env a u = (denEs C P ks env u).bind (kCK2 C P f j a) := fun a u => nr rfl
noncomputable def kCL (C : Cfg) (P : Phi) (es : CEs) (env : Env) (s : Sl) : M D := fun u => (match s with | .val (.fn f) => M.bind (denEs C P es env) fun ds => P f ds | _ => stuck : M D) u
theorem kCL_ap (C : Cfg) (P : Phi) (es : CEs) (env : Env) (s : Sl) : ∀ u, kCL C P es env s u = (match s with | .val (.fn f) => M.bind (denEs C P es env) fun ds => P f ds | _ => stuck : M D) u := fun u => nr rfl
noncomputable def kBi (b : Bi) : List D → M D := fun ds u => lift (b.run u ds) u
theorem kBi_ap (b : Bi) : ∀ ds u, kBi b ds u = lift (b.run u ds) u := fun ds u => nr rfl
noncomputable def kIsi (ts : List Ty) : D → M D := fun d u => (lift (isAny ts d) u).bind kBl
theorem kIsi_ap (ts : List Ty) : ∀ d u, kIsi ts d u = (lift (isAny ts d) u).bind kBl := fun d u => nr rfl
noncomputable def kLst : List D → M D := fun ds u => .ok (.lst ds) u
theorem kLst_ap : ∀ ds u, kLst ds u = .ok (.lst ds) u := fun ds u => nr rfl
noncomputable def kBnd : D → M (Option Int) := fun d u => lift (bndD d) u
theorem kBnd_ap : ∀ d u, kBnd d u = lift (bndD d) u := fun d u => nr rfl
noncomputable def kCons (d : D) : List D → M (List D) := fun r u => .ok (d :: r) u
theorem kCons_ap (d : D) : ∀ r u, kCons d r u = .ok (d :: r) u := fun r u => nr rfl
noncomputable def kOs (C : Cfg) (P : Phi) (os : Ops) (env : Env) : D → M (List D) := fun d u => (denOs C P os env u).bind (kCons d)
theorem kOs_ap (C : Cfg) (P : Phi) (os : Ops) (env : Env) : ∀ d u, kOs C P os env d u = (denOs C P os env u).bind (kCons d) := fun d u => nr rfl
noncomputable def kEs (C : Cfg) (P : Phi) (es : CEs) (env : Env) : D → M (List D) := fun d u => (denEs C P es env u).bind (kCons d)
theorem kEs_ap (C : Cfg) (P : Phi) (es : CEs) (env : Env) : ∀ d u, kEs C P es env d u = (denEs C P es env u).bind (kCons d) := fun d u => nr rfl
noncomputable def kBl1 : D → M D := fun d u => (asBl d u).bind kBl
theorem kBl1_ap : ∀ d u, kBl1 d u = (asBl d u).bind kBl := fun d u => nr rfl
noncomputable def kAndB (C : Cfg) (P : Phi) (es : CEs) (env : Env) : Bool → M D := fun b u => (if b = true then denAnd C P es env else ret (.bl false)) u
theorem kAndB_ap (C : Cfg) (P : Phi) (es : CEs) (env : Env) : ∀ b u, kAndB C P es env b u = (if b = true then denAnd C P es env else ret (.bl false)) u := fun b u => nr rfl
noncomputable def kAnd (C : Cfg) (P : Phi) (es : CEs) (env : Env) : D → M D := fun d u => (asBl d u).bind (kAndB C P es env)
theorem kAnd_ap (C : Cfg) (P : Phi) (es : CEs) (env : Env) : ∀ d u, kAnd C P es env d u = (asBl d u).bind (kAndB C P es env) := fun d u => nr rfl
noncomputable def kOrB (C : Cfg) (P : Phi) (es : CEs) (env : Env) : Bool → M D := fun b u => (if b = true then ret (.bl true) else denOr C P es env) u
theorem kOrB_ap (C : Cfg) (P : Phi) (es : CEs) (env : Env) : ∀ b u, kOrB C P es env b u = (if b = true then ret (.bl true) else denOr C P es env) u := fun b u => nr rfl
noncomputable def kOr (C : Cfg) (P : Phi) (es : CEs) (env : Env) : D → M D := fun d u => (asBl d u).bind (kOrB C P es env)
theorem kOr_ap (C : Cfg) (P : Phi) (es : CEs) (env : Env) : ∀ d u, kOr C P es env d u = (asBl d u).bind (kOrB C P es env) := fun d u => nr rfl
noncomputable def kCat (C : Cfg) (P : Phi) (b : Op) (env : Env) : D → M (List D) := fun x u => (denO C P b env u).bind (catD x)
theorem kCat_ap (C : Cfg) (P : Phi) (b : Op) (env : Env) : ∀ x u, kCat C P b env x u = (denO C P b env u).bind (catD x) := fun x u => nr rfl
noncomputable def kLc (C : Cfg) (P : Phi) (elt : CE) (vs : List Nat) (tg : Tg) (cs : CEs) (env : Env) : List D → M (List D) := fun items u => (if items.length ≤ line then lcRun (lcB C P elt vs tg cs env) items else stuck) u
theorem kLc_ap (C : Cfg) (P : Phi) (elt : CE) (vs : List Nat) (tg : Tg) (cs : CEs) (env : Env) : ∀ items u, kLc C P elt vs tg cs env items u = (if items.length ≤ line then lcRun (lcB C P elt vs tg cs env) items else stuck) u := fun items u => nr rfl
noncomputable def kLstR : List D → M (List D) := fun ds u => (if ds.length ≤ line then ret ds else stuck) u
theorem kLstR_ap : ∀ ds u, kLstR ds u = (if ds.length ≤ line then ret ds else stuck) u := fun ds u => nr rfl
noncomputable def kSF3 (x : D) (l : Option Int) : Option Int → M (List D) := fun h u => slD x l h u
theorem kSF3_ap (x : D) (l : Option Int) : ∀ h u, kSF3 x l h u = slD x l h u := fun h u => nr rfl
noncomputable def kSF2 (C : Cfg) (P : Phi) (hi : OpB) (env : Env) (x : D) : Option Int → M (List D) := fun l u => (denB C P hi env u).bind (kSF3 x l)
theorem kSF2_ap (C : Cfg) (P : Phi) (hi : OpB) (env : Env) (x : D) : ∀ l u, kSF2 C P hi env x l u = (denB C P hi env u).bind (kSF3 x l) := fun l u => nr rfl
noncomputable def kSF1 (C : Cfg) (P : Phi) (lo hi : OpB) (env : Env) : D → M (List D) := fun x u => (denB C P lo env u).bind (kSF2 C P hi env x)
theorem kSF1_ap (C : Cfg) (P : Phi) (lo hi : OpB) (env : Env) : ∀ x u, kSF1 C P lo hi env x u = (denB C P lo env u).bind (kSF2 C P hi env x) := fun x u => nr rfl
noncomputable def kRep (C : Cfg) (P : Phi) (n : CE) (env : Env) : D → M (List D) := fun x u => (denE C P n env u).bind (repD x)
theorem kRep_ap (C : Cfg) (P : Phi) (n : CE) (env : Env) : ∀ x u, kRep C P n env x u = (denE C P n env u).bind (repD x) := fun x u => nr rfl
noncomputable def kSort : D → M (List D) := fun d u => lift (sortedD d) u
theorem kSort_ap : ∀ d u, kSort d u = lift (sortedD d) u := fun d u => nr rfl
noncomputable def kIts : D → M (List D) := fun d u => lift (itsOf d) u
theorem kIts_ap : ∀ d u, kIts d u = lift (itsOf d) u := fun d u => nr rfl
noncomputable def kR1 : D → M (List D) := fun d u => lift (rng1D d) u
theorem kR1_ap : ∀ d u, kR1 d u = lift (rng1D d) u := fun d u => nr rfl
noncomputable def kR2b (x : D) : D → M (List D) := fun y u => lift (rng2D x y) u
theorem kR2b_ap (x : D) : ∀ y u, kR2b x y u = lift (rng2D x y) u := fun y u => nr rfl
noncomputable def kR2 (C : Cfg) (P : Phi) (b : CE) (env : Env) : D → M (List D) := fun x u => (denE C P b env u).bind (kR2b x)
theorem kR2_ap (C : Cfg) (P : Phi) (b : CE) (env : Env) : ∀ x u, kR2 C P b env x u = (denE C P b env u).bind (kR2b x) := fun x u => nr rfl
noncomputable def kEnm (k : Option Int) : D → M (List D) := fun d u => lift (enmD k d) u
theorem kEnm_ap (k : Option Int) : ∀ d u, kEnm k d u = lift (enmD k d) u := fun d u => nr rfl
noncomputable def kZipb (x : D) : D → M (List D) := fun y u => lift (zipD x y) u
theorem kZipb_ap (x : D) : ∀ y u, kZipb x y u = lift (zipD x y) u := fun y u => nr rfl
noncomputable def kZip (C : Cfg) (P : Phi) (b : CE) (env : Env) : D → M (List D) := fun x u => (denE C P b env u).bind (kZipb x)
theorem kZip_ap (C : Cfg) (P : Phi) (b : CE) (env : Env) : ∀ x u, kZip C P b env x u = (denE C P b env u).bind (kZipb x) := fun x u => nr rfl
noncomputable def kTs (C : Cfg) (P : Phi) (ts : Tgs) (ds : List D) : Env → M Env := fun x u => denTs C P ts ds x u
theorem kTs_ap (C : Cfg) (P : Phi) (ts : Tgs) (ds : List D) : ∀ x u, kTs C P ts ds x u = denTs C P ts ds x u := fun x u => nr rfl
noncomputable def kNxt : Env → M Out := fun x u => .ok (.nxt x) u
theorem kNxt_ap : ∀ x u, kNxt x u = .ok (.nxt x) u := fun x u => nr rfl
noncomputable def kAsg (C : Cfg) (P : Phi) (t : Tg) (env : Env) : D → M Out := fun d u => (denT C P t d env u).bind kNxt
theorem kAsg_ap (C : Cfg) (P : Phi) (t : Tg) (env : Env) : ∀ d u, kAsg C P t env d u = (denT C P t d env u).bind kNxt := fun d u => nr rfl
noncomputable def kOwn (i : Nat) (env : Env) : List D → M Out := fun ds u => .ok (.nxt (setS env i (.own ds))) u
theorem kOwn_ap (i : Nat) (env : Env) : ∀ ds u, kOwn i env ds u = .ok (.nxt (setS env i (.own ds))) u := fun ds u => nr rfl
noncomputable def kExpr (env : Env) : D → M Out := fun _d u => .ok (.nxt env) u
theorem kExpr_ap (env : Env) : ∀ _d u, kExpr env _d u = .ok (.nxt env) u := fun _d u => nr rfl
noncomputable def kRet : D → M Out := fun d u => .ok (.ret d) u
theorem kRet_ap : ∀ d u, kRet d u = .ok (.ret d) u := fun d u => nr rfl
noncomputable def kIns (C : Cfg) (P : Phi) (i : Nat) (x : CE) (env : Env) : D → M Out := fun y u => (denE C P x env u).bind (insD i env y)
theorem kIns_ap (C : Cfg) (P : Phi) (i : Nat) (x : CE) (env : Env) : ∀ y u, kIns C P i x env y u = (denE C P x env u).bind (insD i env y) := fun y u => nr rfl
noncomputable def kIfB (C : Cfg) (P : Phi) (a b : CSs) (env : Env) : Bool → M Out := fun t u => (if t = true then denSs C P a env else denSs C P b env) u
theorem kIfB_ap (C : Cfg) (P : Phi) (a b : CSs) (env : Env) : ∀ t u, kIfB C P a b env t u = (if t = true then denSs C P a env else denSs C P b env) u := fun t u => nr rfl
noncomputable def kIf (C : Cfg) (P : Phi) (a b : CSs) (env : Env) : D → M Out := fun d u => (asBl d u).bind (kIfB C P a b env)
theorem kIf_ap (C : Cfg) (P : Phi) (a b : CSs) (env : Env) : ∀ d u, kIf C P a b env d u = (asBl d u).bind (kIfB C P a b env) := fun d u => nr rfl
noncomputable def kFor (C : Cfg) (P : Phi) (t : Tg) (b : CSs) (env : Env) : List D → M Out := fun items u => forRun (forB C P t b) items env u
theorem kFor_ap (C : Cfg) (P : Phi) (t : Tg) (b : CSs) (env : Env) : ∀ items u, kFor C P t b env items u = forRun (forB C P t b) items env u := fun items u => nr rfl
noncomputable def kPv (C : Cfg) (P : Phi) (i : Nat) (r : Prs) (env0 env : Env) : D → M Env := fun d u => denP C P r env0 (setS env i (.val d)) u
theorem kPv_ap (C : Cfg) (P : Phi) (i : Nat) (r : Prs) (env0 env : Env) : ∀ d u, kPv C P i r env0 env d u = denP C P r env0 (setS env i (.val d)) u := fun d u => nr rfl
noncomputable def kPo (C : Cfg) (P : Phi) (i : Nat) (r : Prs) (env0 env : Env) : List D → M Env := fun ds u => denP C P r env0 (setS env i (.own ds)) u
theorem kPo_ap (C : Cfg) (P : Phi) (i : Nat) (r : Prs) (env0 env : Env) : ∀ ds u, kPo C P i r env0 env ds u = denP C P r env0 (setS env i (.own ds)) u := fun ds u => nr rfl
noncomputable def kSome : D → M (Option D) := fun y u => .ok (some y) u
theorem kSome_ap : ∀ y u, kSome y u = .ok (some y) u := fun y u => nr rfl
noncomputable def kLcE (C : Cfg) (P : Phi) (elt : CE) (env : Env) : M (Option D) := fun u => (denE C P elt env u).bind kSome
theorem kLcE_ap (C : Cfg) (P : Phi) (elt : CE) (env : Env) : ∀ u, kLcE C P elt env u = (denE C P elt env u).bind kSome := fun u => nr rfl
noncomputable def kLcC (C : Cfg) (P : Phi) (elt : CE) (env : Env) : Bool → M (Option D) := fun b u => (if b = true then kLcE C P elt env else ret none) u
theorem kLcC_ap (C : Cfg) (P : Phi) (elt : CE) (env : Env) : ∀ b u, kLcC C P elt env b u = (if b = true then kLcE C P elt env else ret none) u := fun b u => nr rfl
noncomputable def kLcT (C : Cfg) (P : Phi) (elt : CE) (cs : CEs) : Env → M (Option D) := fun x u => (denCs C P cs x u).bind (kLcC C P elt x)
theorem kLcT_ap (C : Cfg) (P : Phi) (elt : CE) (cs : CEs) : ∀ x u, kLcT C P elt cs x u = (denCs C P cs x u).bind (kLcC C P elt x) := fun x u => nr rfl
noncomputable def kTo (C : Cfg) (P : Phi) (b : CSs) : Env → M Out := fun x u => denSs C P b x u
theorem kTo_ap (C : Cfg) (P : Phi) (b : CSs) : ∀ x u, kTo C P b x u = denSs C P b x u := fun x u => nr rfl
noncomputable def kWe : Out → M (Option Out) := fun o u => .ok (some o) u
theorem kWe_ap : ∀ o u, kWe o u = .ok (some o) u := fun o u => nr rfl
noncomputable def kWd (C : Cfg) (P : Phi) (b : CSs) (env : Env) : M (Option Out) := fun u => (denSs C P b env u).bind kWe
theorem kWd_ap (C : Cfg) (P : Phi) (b : CSs) (env : Env) : ∀ u, kWd C P b env u = (denSs C P b env u).bind kWe := fun u => nr rfl
noncomputable def kWc (C : Cfg) (P : Phi) (b : CSs) (env : Env) : Bool → M (Option Out) := fun t u => (if t = true then kWd C P b env else ret none) u
theorem kWc_ap (C : Cfg) (P : Phi) (b : CSs) (env : Env) : ∀ t u, kWc C P b env t u = (if t = true then kWd C P b env else ret none) u := fun t u => nr rfl
noncomputable def kWb (C : Cfg) (P : Phi) (b : CSs) (env : Env) : D → M (Option Out) := fun d u => (asBl d u).bind (kWc C P b env)
theorem kWb_ap (C : Cfg) (P : Phi) (b : CSs) (env : Env) : ∀ d u, kWb C P b env d u = (asBl d u).bind (kWc C P b env) := fun d u => nr rfl
section
variable (C : Cfg) (P : Phi) (env : Env) (u : U)
theorem E_binq (o : BinO) (a b : CE) : denE C P (.bin o a b) env u = (denE C P a env u).bind (kBin C P o b env) := nr rfl
theorem E_notq (a : CE) : denE C P (.notv a) env u = (denE C P a env u).bind kNot := nr rfl
theorem E_negq (a : CE) : denE C P (.neg a) env u = (denE C P a env u).bind negD := nr rfl
theorem E_andq (es : CEs) : denE C P (.andv es) env u = denAnd C P es env u := nr rfl
theorem E_orq (es : CEs) : denE C P (.orv es) env u = denOr C P es env u := nr rfl
theorem E_cmpq (o : CmpO) (a b : Op) : denE C P (.cmp o a b) env u = (denO C P a env u).bind (kCmp C P o b env) := nr rfl
theorem E_cmp2q (o o2 : CmpO) (a b c : CE) : denE C P (.cmp2 o o2 a b c) env u = (denE C P a env u).bind (kC2 C P o o2 b c env) := nr rfl
theorem E_iteq (c a b : CE) : denE C P (.ite c a b) env u = (denE C P c env u).bind (kIte C P a b env) := nr rfl
theorem E_tupq (es : CEs) : denE C P (.tup es) env u = (denEs C P es env u).bind kTup := nr rfl
theorem E_newcq (es : CEs) : denE C P (.newc es) env u = (denEs C P es env u).bind kNewc := nr rfl
theorem E_idxq (a : Op) (i : CE) : denE C P (.idx a i) env u = (denO C P a env u).bind (kIdx C P i env) := nr rfl
theorem E_slTq (a : Op) (lo hi : OpB) : denE C P (.slT a lo hi) env u = (denO C P a env u).bind (kSl1 C P lo hi env) := nr rfl
theorem E_callq (f : Nat) (es : CEs) : denE C P (.call f es) env u = (denEs C P es env u).bind (P f) := nr rfl
theorem E_callKq (f j : Nat) (es ks : CEs) : denE C P (.callK f j es ks) env u = (denEs C P es env u).bind (kCK C P f j ks env) := nr rfl
theorem E_callLq (i : Nat) (es : CEs) : denE C P (.callL i es) env u = kCL C P es env (getS env i) u := nr rfl
theorem E_biq (b : Bi) (es : Ops) : denE C P (.bi b es) env u = (denOs C P es env u).bind (kBi b) := nr rfl
theorem E_isiq (a : CE) (ts : List Ty) (s : Bool) : denE C P (.isi a ts s) env u = (denE C P a env u).bind (kIsi ts) := nr rfl
theorem E_frq (f : FE) : denE C P (.fr f) env u = (denF C P f env u).bind kLst := nr rfl
theorem B_soq (x : CE) : denB C P (.so x) env u = (denE C P x env u).bind kBnd := nr rfl
theorem Os_consq (o : Op) (os : Ops) : denOs C P (.cons o os) env u = (denO C P o env u).bind (kOs C P os env) := nr rfl
theorem Es_consq (x : CE) (es : CEs) : denEs C P (.cons x es) env u = (denE C P x env u).bind (kEs C P es env) := nr rfl
theorem And_oneq (x : CE) : denAnd C P (.cons x .nil) env u = (denE C P x env u).bind kBl1 := nr rfl
theorem And_consq (x f : CE) (es : CEs) : denAnd C P (.cons x (.cons f es)) env u = (denE C P x env u).bind (kAnd C P (.cons f es) env) := nr rfl
theorem Or_oneq (x : CE) : denOr C P (.cons x .nil) env u = (denE C P x env u).bind kBl1 := nr rfl
theorem Or_consq (x f : CE) (es : CEs) : denOr C P (.cons x (.cons f es)) env u = (denE C P x env u).bind (kOr C P (.cons f es) env) := nr rfl
theorem Cs_oneq (x : CE) : denCs C P (.cons x .nil) env u = (denE C P x env u).bind asBl := nr rfl
theorem F_dispq (es : CEs) : denF C P (.disp es) env u = denEs C P es env u := nr rfl
theorem F_catq (a b : Op) : denF C P (.cat a b) env u = (denO C P a env u).bind (kCat C P b env) := nr rfl
theorem F_lcq (elt : CE) (vs : List Nat) (tg : Tg) (it : It) (cs : CEs) : denF C P (.lc elt vs tg it cs) env u = (denI C P it env u).bind (kLc C P elt vs tg cs env) := nr rfl
theorem F_lstq (o : Op) : denF C P (.lst o) env u = (denO C P o env u).bind lstD := nr rfl
theorem F_lstRq (it : It) : denF C P (.lstR it) env u = (denI C P it env u).bind kLstR := nr rfl
theorem F_slq (a : Op) (lo hi : OpB) : denF C P (.sl a lo hi) env u = (denO C P a env u).bind (kSF1 C P lo hi env) := nr rfl
theorem F_revq (a : Op) : denF C P (.rev a) env u = (denO C P a env u).bind revD := nr rfl
theorem F_repq (a : Op) (n : CE) : denF C P (.rep a n) env u = (denO C P a env u).bind (kRep C P n env) := nr rfl
theorem F_sortedq (o : Op) : denF C P (.sorted o) env u = (denO C P o env u).bind kSort := nr rfl
theorem I_seqq (o : Op) : denI C P (.seq o) env u = (denO C P o env u).bind kIts := nr rfl
theorem I_rng1q (a : CE) : denI C P (.rng1 a) env u = (denE C P a env u).bind kR1 := nr rfl
theorem I_rng2q (a b : CE) : denI C P (.rng2 a b) env u = (denE C P a env u).bind (kR2 C P b env) := nr rfl
theorem I_enmq (o : CE) (k : Option Int) : denI C P (.enm o k) env u = (denE C P o env u).bind (kEnm k) := nr rfl
theorem I_zipq (a b : CE) : denI C P (.zip a b) env u = (denE C P a env u).bind (kZip C P b env) := nr rfl
theorem Ts_consq (t : Tg) (ts : Tgs) (d : D) (ds : List D) : denTs C P (.cons t ts) (d :: ds) env u = (denT C P t d env u).bind (kTs C P ts ds) := nr rfl
theorem S_asgq (t : Tg) (x : CE) : denS C P (.asg t x) env u = (denE C P x env u).bind (kAsg C P t env) := nr rfl
theorem S_ownq (i : Nat) (f : FE) : denS C P (.own i f) env u = (denF C P f env u).bind (kOwn i env) := nr rfl
theorem S_parq (ps : Prs) : denS C P (.par ps) env u = (denP C P ps env env u).bind kNxt := nr rfl
theorem S_exprq (x : CE) : denS C P (.expr x) env u = (denE C P x env u).bind (kExpr env) := nr rfl
theorem S_retq (x : CE) : denS C P (.ret x) env u = (denE C P x env u).bind kRet := nr rfl
theorem S_insq (i : Nat) (a x : CE) : denS C P (.ins i a x) env u = (denE C P a env u).bind (kIns C P i x env) := nr rfl
theorem S_ifsq (c : CE) (a b : CSs) : denS C P (.ifs c a b) env u = (denE C P c env u).bind (kIf C P a b env) := nr rfl
theorem S_forq (t : Tg) (it : It) (b : CSs) : denS C P (.for_ t it b) env u = (denI C P it env u).bind (kFor C P t b env) := nr rfl
theorem P_valq (i : Nat) (x : CE) (r : Prs) (env0 : Env) : denP C P (.val (.nm i) x r) env0 env u = (denE C P x env0 u).bind (kPv C P i r env0 env) := nr rfl
theorem P_ownq (i : Nat) (f : FE) (r : Prs) (env0 : Env) : denP C P (.own i f r) env0 env u = (denF C P f env0 u).bind (kPo C P i r env0 env) := nr rfl
theorem lcB_apq (elt : CE) (vs : List Nat) (tg : Tg) (cs : CEs) (d : D) : lcB C P elt vs tg cs env d u = (denT C P tg d (wipeS env vs) u).bind (kLcT C P elt cs) := nr rfl
theorem forB_apq (t : Tg) (b : CSs) (d : D) : forB C P t b d env u = (denT C P t d env u).bind (kTo C P b) := nr rfl
theorem whlB_apq (c : CE) (b : CSs) : whlB C P c b env u = (denE C P c env u).bind (kWb C P b env) := nr rfl
end

theorem kCL_fn (C : Cfg) (P : Phi) (es : CEs) (env : Env) (f : Nat) (u : U) : kCL C P es env (.val (.fn f)) u = (denEs C P es env u).bind (P f) := nr rfl
/-- Wp's continuation with a name -/
def kW {α β : Type} (f : α → M β) (Q : β → U → Prop) : α → U → Prop := fun a u => Wp (f a u) Q
theorem Wp_bind {α β : Type} (r : Res α) (f : α → M β) (Q : β → U → Prop) : Wp (r.bind f) Q = Wp r (kW f Q) := by
  cases r <;> rfl
theorem kW_ap {α β : Type} (f : α → M β) (Q : β → U → Prop) (a : α) (u : U) : kW f Q a u = Wp (f a u) Q := nr rfl
/-! ### comprehensions -/
def lcA {α : Type} (body : α → U → Res (Option D)) : List α → U → Res (List D)
  | [], u => .ok [] u
  | x :: xs, u => (body x u).bind fun o u1 => (lcA body xs u1).bind fun r u2 => .ok (match o with | some y => y :: r | none => r) u2
theorem lcA_congr {α : Type} {f g : α → U → Res (Option D)} {xs ys : List α} {u : U} (h : xs = ys) (h2 : ∀ x ∈ ys, ∀ u, f x u = g x u) : lcA f xs u = lcA g ys u := by
  subst h
  induction xs generalizing u with
  | nil => rfl
  | cons x xs ih =>
    unfold lcA
    rw [h2 x List.mem_cons_self]
    congr 1
    funext o u1
    rw [ih fun y hy => h2 y (List.mem_cons_of_mem _ hy)]
theorem lcRun_A {α : Type} (body : D → M (Option D)) (f : α → D) (xs : List α) (u : U) : lcRun body (xs.map f) u = lcA (fun x => body (f x)) xs u := by
  induction xs generalizing u with
  | nil => rfl
  | cons x xs ih =>
    show (body (f x) u).bind _ = (body (f x) u).bind _
    congr 1
    funext o u1
    show (lcRun body (xs.map f) u1).bind _ = _
    rw [ih] <;> rfl
theorem lcA_ok {α : Type} (g : α → D) (xs : List α) (u : U) : lcA (fun x u => .ok (some (g x)) u) xs u = .ok (xs.map g) u := by
  induction xs generalizing u with
  | nil => rfl
  | cons x xs ih => unfold lcA; rw [bind_ok, ih, bind_ok]; rfl
theorem lcA_if {α : Type} (p : α → Bool) (g : α → D) (xs : List α) (u : U) : lcA (fun x u => .ok (if p x = true then some (g x) else none) u) xs u = .ok ((xs.filter p).map g) u := by
  induction xs generalizing u with
  | nil => rfl
  | cons x xs ih =>
    unfold lcA; rw [bind_ok, ih, bind_ok]
    cases h : p x with
    | true => rw [if_pos rfl, List.filter_cons_of_pos h]; rfl
    | false => rw [if_neg Bool.false_ne_true, List.filter_cons_of_neg (by rw [h]; exact Bool.false_ne_true)]
/-- a comprehension with a given outcome -/
theorem lcA_some {α : Type} {f : α → U → Res (Option D)} {g : α → D} {xs : List α} {u : U} (h : ∀ x ∈ xs, ∀ u, f x u = .ok (some (g x)) u) : lcA f xs u = .ok (xs.map g) u :=
  (lcA_congr rfl h).trans (lcA_ok g xs u)
theorem lcA_fil {α : Type} {f : α → U → Res (Option D)} {p : α → Bool} {g : α → D} {xs : List α} {u : U} (h : ∀ x ∈ xs, ∀ u, f x u = .ok (if p x = true then some (g x) else none) u) : lcA f xs u = .ok ((xs.filter p).map g) u :=
  (lcA_congr rfl h).trans (lcA_if p g xs u)
/-- .. whose turns draw -/
theorem lcA_wp {α : Type} {f : α → U → Res (Option D)} {Q : List D → U → Prop} (Inv : Nat → List D → U → Prop) {xs : List α} {u : U} (h0 : Inv 0 [] u)
    (step : ∀ i x acc u, xs[i]? = some x → Inv i acc u → Wp (f x u) fun o u' => Inv (i + 1) (match o with | some y => acc ++ [y] | none => acc) u')
    (hd : ∀ acc u, Inv xs.length acc u → Q acc u) : Wp (lcA f xs u) Q := by
  have key : ∀ (xs : List α) (Inv : Nat → List D → U → Prop) (acc : List D) (u : U), Inv 0 acc u → (∀ i x acc u, xs[i]? = some x → Inv i acc u → Wp (f x u) fun o u' => Inv (i + 1) (match o with | some y => acc ++ [y] | none => acc) u') →
      Wp (lcA f xs u) fun r u' => Inv xs.length (acc ++ r) u' := by
    intro xs
    induction xs with
    | nil => intro Inv acc u h _; show Inv 0 (acc ++ []) u; rw [List.append_nil]; exact h
    | cons x xs ih =>
      intro Inv acc u h st
      unfold lcA
      refine Wp.bind ((st 0 x acc u rfl h).mono fun o u1 h1 => ?_)
      refine Wp.bind ((ih (fun i => Inv (i + 1)) _ u1 h1 (fun i x acc u hx hi => st (i + 1) x acc u (by simpa using hx) hi)).mono fun r u2 h2 => ?_)
      show Inv (xs.length + 1) _ u2
      cases o with
      | none => exact h2
      | some y =>
        have e : acc ++ (y :: r) = (acc ++ [y]) ++ r := by simp
        show Inv _ (acc ++ (y :: r)) u2
        rw [e]; exact h2
  exact (key xs Inv [] u h0 step).mono fun r u' h => hd r u' (by rw [List.nil_append] at h; exact h)
theorem lc_len {α : Type} {f : α → D} {xs : List α} (h : xs.length ≤ 1000000) (m : M (List D)) (u : U) : (if (xs.map f).length ≤ line then m else stuck) u = m u := by
  rw [if_pos (by rw [List.length_map]; unfold line; omega)]
theorem wipe_nil (env : Env) : wipeS env [] = env := nr rfl
theorem wipe_cons (env : Env) (i : Nat) (r : List Nat) : wipeS env (i :: r) = setS (wipeS env r) i .no := nr rfl
theorem its_tup (ds : List D) : itsOf (.tup ds) = some ds := nr rfl
theorem its_lst (ds : List D) : itsOf (.lst ds) = some ds := nr rfl
/-- a turn that takes what b tells -/
theorem lc_len2 {n : Nat} (h : n ≤ 1000000) (m : M (List D)) : (if n ≤ line then m else stuck) = m := if_pos (by unfold line; omega)
theorem turn_if {b : Bool} {C : Cfg} {P : Phi} {elt : CE} {env : Env} {x : D} {u : U} (h : denE C P elt env u = .ok x u) : (if b = true then kLcE C P elt env else ret none) u = .ok (if b = true then some x else none) u := by
  cases b with
  | true => show (denE C P elt env u).bind kSome = _; rw [h]; rfl
  | false => rfl
theorem lcRun_E {α : Type} (body : D → M (Option D)) (f : α → D) (xs : List α) (u : U) : lcRun body (xs.map f) u = lcA (fun x u => body (f x) u) xs u := lcRun_A body f xs u
/-! ### what is walked -/
theorem rng1_map {n : Nat} (h : n ≤ 1000000) : rng1D (.int (n : Int)) = some ((List.range n).map fun (i : Nat) => D.int (i : Int)) := rng1_nat h
theorem rng2_map {i j : Nat} (h : i ≤ 1000000) (h2 : j ≤ 1000000) : rng2D (.int (i : Int)) (.int (j : Int)) = some ((List.range' i (j - i)).map fun (t : Nat) => D.int (t : Int)) := by
  show (if (rngOk (i : Int) && rngOk (j : Int)) = true then some (rngL i j) else none) = _
  rw [if_pos (by unfold rngOk; simp; omega)]
  unfold rngL
  rw [show ((j : Int) - i).toNat = j - i by omega, List.range'_eq_map_range, List.map_map]
  rfl
theorem rng2_1 {j : Nat} (h2 : j ≤ 1000000) : rng2D (.int 1) (.int (j : Int)) = some ((List.range' 1 (j - 1)).map fun (t : Nat) => D.int (t : Int)) := rng2_map (i := 1) (by decide) h2
theorem enmL_map {α : Type} (f : α → D) (xs : List α) (k : Nat) : enmL (k : Int) (xs.map f) = (xs.zipIdx k).map fun p => .tup [.int (p.2 : Int), f p.1] := by
  induction xs generalizing k with
  | nil => rfl
  | cons x xs ih =>
    show D.tup [.int k, f x] :: enmL ((k : Int) + 1) (xs.map f) = _
    rw [show (k : Int) + 1 = ((k + 1 : Nat) : Int) by omega, ih]
    rfl
theorem enm_0 {d : D} {α : Type} {f : α → D} {xs : List α} (h : itsOf d = some (xs.map f)) : enmD none d = some (xs.zipIdx.map fun p => .tup [.int (p.2 : Int), f p.1]) := by
  unfold enmD
  rw [h]
  show (if rngOk 0 = true then some (enmL ((0 : Nat) : Int) (xs.map f)) else none) = _
  rw [if_pos (by decide), enmL_map]
theorem enm_k {d : D} {α : Type} {f : α → D} {xs : List α} {k : Nat} (hk : k ≤ 1000) (h : itsOf d = some (xs.map f)) : enmD (some (k : Int)) d = some ((xs.zipIdx k).map fun p => .tup [.int (p.2 : Int), f p.1]) := by
  unfold enmD
  rw [h]
  show (if rngOk (k : Int) = true then some (enmL (k : Int) (xs.map f)) else none) = _
  rw [if_pos (by unfold rngOk; simp; omega), enmL_map]
theorem zipL_map {α β : Type} (f : α → D) (g : β → D) (xs : List α) (ys : List β) : zipL (xs.map f) (ys.map g) = (xs.zip ys).map fun p => .tup [f p.1, g p.2] := by
  induction xs generalizing ys with
  | nil => rfl
  | cons x xs ih =>
    cases ys with
    | nil => rfl
    | cons y ys =>
      show D.tup [f x, g y] :: zipL (xs.map f) (ys.map g) = _
      rw [ih]; rfl
theorem zip_tt {α β : Type} (f : α → D) (g : β → D) (xs : List α) (ys : List β) : zipD (.tup (xs.map f)) (.tup (ys.map g)) = some ((xs.zip ys).map fun p => .tup [f p.1, g p.2]) := by
  show some (zipL _ _) = _
  rw [zipL_map]
theorem zip_ll {α β : Type} (f : α → D) (g : β → D) (xs : List α) (ys : List β) : zipD (.lst (xs.map f)) (.lst (ys.map g)) = some ((xs.zip ys).map fun p => .tup [f p.1, g p.2]) := by
  show some (zipL _ _) = _
  rw [zipL_map]
/-! ### loops as folds -/
theorem forRun_fold {α S J : Type} {body : D → Env → M Out} {f : α → D} (E : S → J → Env) (step : S → α → S) (nx : α → J → J) {xs : List α} {s : S} {j : J} {u : U}
    (h : ∀ x ∈ xs, ∀ s j u, body (f x) (E s j) u = .ok (.nxt (E (step s x) (nx x j))) u) : forRun body (xs.map f) (E s j) u = .ok (.nxt (E (xs.foldl step s) (xs.foldl (fun j x => nx x j) j))) u := by
  induction xs generalizing s j u with
  | nil => rfl
  | cons x xs ih =>
    show (body (f x) (E s j) u).bind _ = _
    rw [h x List.mem_cons_self, bind_ok]
    exact ih fun y hy => h y (List.mem_cons_of_mem _ hy)
theorem forRun_any {body : D → Env → M Out} {Q : Out → U → Prop} {n : Nat} {f : Nat → D} (Inv : Nat → Env → U → Prop) {env : Env} {u : U} (h0 : Inv 0 env u)
    (step : ∀ t env u, t < n → Inv t env u → Wp (body (f t) env u) fun o u' => match o with | .nxt e => Inv (t + 1) e u' | .cnt e => Inv (t + 1) e u' | .brk e => Q (.nxt e) u' | .ret x => Q (.ret x) u')
    (hd : ∀ env u, Inv n env u → Q (.nxt env) u) : Wp (forRun body ((List.range n).map f) env u) Q := by
  refine forRun_wp Inv h0 (fun i d env u hd hi => ?_) fun env u hi => hd env u (by rw [List.length_map, List.length_range] at hi; exact hi)
  rw [List.getElem?_map] at hd
  obtain ⟨t, ht, rfl⟩ := Option.map_eq_some_iff.mp hd
  rw [List.getElem?_eq_some_iff] at ht
  obtain ⟨q1, q2⟩ := ht
  rw [List.getElem_range] at q2
  subst q2
  exact step i env u (by simpa using q1) hi
theorem forRun_rng {body : D → Env → M Out} {Q : Out → U → Prop} {a n : Nat} {f : Nat → D} (Inv : Nat → Env → U → Prop) {env : Env} {u : U} (h0 : Inv a env u)
    (step : ∀ t env u, a ≤ t → t < a + n → Inv t env u → Wp (body (f t) env u) fun o u' => match o with | .nxt e => Inv (t + 1) e u' | .cnt e => Inv (t + 1) e u' | .brk e => Q (.nxt e) u' | .ret x => Q (.ret x) u')
    (hd : ∀ env u, Inv (a + n) env u → Q (.nxt env) u) : Wp (forRun body ((List.range' a n).map f) env u) Q := by
  rw [List.range'_eq_map_range, List.map_map]
  exact forRun_any (fun i => Inv (a + i)) h0 (fun t env u ht hi => step (a + t) env u (by omega) (by omega) hi) hd
/-- over what is mapped -/
theorem forRun_map {α : Type} {body : D → Env → M Out} {Q : Out → U → Prop} {xs : List α} {f : α → D} (Inv : Nat → Env → U → Prop) {env : Env} {u : U} (h0 : Inv 0 env u)
    (step : ∀ t x env u, xs[t]? = some x → Inv t env u → Wp (body (f x) env u) fun o u' => match o with | .nxt e => Inv (t + 1) e u' | .cnt e => Inv (t + 1) e u' | .brk e => Q (.nxt e) u' | .ret x => Q (.ret x) u')
    (hd : ∀ env u, Inv xs.length env u → Q (.nxt env) u) : Wp (forRun body (xs.map f) env u) Q := by
  refine forRun_wp Inv h0 (fun i d env u hd hi => ?_) fun env u hi => hd env u (by rw [List.length_map] at hi; exact hi)
  rw [List.getElem?_map] at hd
  obtain ⟨x, hx, rfl⟩ := Option.map_eq_some_iff.mp hd
  exact step i x env u hx hi
/-! ### builtins over what is mapped -/
theorem intsOf_m {α : Type} (f : α → Int) (xs : List α) : intsOf (xs.map fun x => D.int (f x)) = some (xs.map f) := by
  induction xs with
  | nil => rfl
  | cons n ns ih => show (match intsOf (ns.map fun x => D.int (f x)) with | some l => some (f n :: l) | none => none) = _; rw [ih]; rfl
theorem blsOf_m {α : Type} (f : α → Bool) (xs : List α) : blsOf (xs.map fun x => D.bl (f x)) = some (xs.map f) := by
  induction xs with
  | nil => rfl
  | cons n ns ih => show (match blsOf (ns.map fun x => D.bl (f x)) with | some l => some (f n :: l) | none => none) = _; rw [ih]; rfl
section
variable {α : Type} (u : U)
theorem sum_m (f : α → Int) (xs : List α) : Bi.run u .sum [.lst (xs.map fun x => .int (f x))] = some (.int (xs.map f).sum) := by
  show (match intsOf (xs.map fun x => D.int (f x)) with | some ns => some (D.int ns.sum) | none => none) = _
  rw [intsOf_m]
theorem sum_mt (f : α → Int) (xs : List α) : Bi.run u .sum [.tup (xs.map fun x => .int (f x))] = some (.int (xs.map f).sum) := by
  show (match intsOf (xs.map fun x => D.int (f x)) with | some ns => some (D.int ns.sum) | none => none) = _
  rw [intsOf_m]
theorem max_m (f : α → Int) {xs : List α} (h : 0 < xs.length) : Bi.run u .max [.lst (xs.map fun x => .int (f x))] = some (.int (maxL (xs.map f))) := by
  show (match intsOf (xs.map fun x => D.int (f x)) with | some ns => if ns.isEmpty then none else some (D.int (maxL ns)) | none => none) = _
  rw [intsOf_m]
  show (if (xs.map f).isEmpty = true then none else _) = _
  rw [if_neg (by cases xs <;> simp_all)]
theorem min_m (f : α → Int) {xs : List α} (h : 0 < xs.length) : Bi.run u .min [.lst (xs.map fun x => .int (f x))] = some (.int (minL (xs.map f))) := by
  show (match intsOf (xs.map fun x => D.int (f x)) with | some ns => if ns.isEmpty then none else some (D.int (minL ns)) | none => none) = _
  rw [intsOf_m]
  show (if (xs.map f).isEmpty = true then none else _) = _
  rw [if_neg (by cases xs <;> simp_all)]
theorem max_mt (f : α → Int) {xs : List α} (h : 0 < xs.length) : Bi.run u .max [.tup (xs.map fun x => .int (f x))] = some (.int (maxL (xs.map f))) := by
  show (match intsOf (xs.map fun x => D.int (f x)) with | some ns => if ns.isEmpty then none else some (D.int (maxL ns)) | none => none) = _
  rw [intsOf_m]
  show (if (xs.map f).isEmpty = true then none else _) = _
  rw [if_neg (by cases xs <;> simp_all)]
theorem min_mt (f : α → Int) {xs : List α} (h : 0 < xs.length) : Bi.run u .min [.tup (xs.map fun x => .int (f x))] = some (.int (minL (xs.map f))) := by
  show (match intsOf (xs.map fun x => D.int (f x)) with | some ns => if ns.isEmpty then none else some (D.int (minL ns)) | none => none) = _
  rw [intsOf_m]
  show (if (xs.map f).isEmpty = true then none else _) = _
  rw [if_neg (by cases xs <;> simp_all)]
theorem all_m (f : α → Bool) (xs : List α) : Bi.run u .all [.lst (xs.map fun x => .bl (f x))] = some (.bl (xs.all f)) := by
  show (match blsOf (xs.map fun x => D.bl (f x)) with | some bs => some (D.bl (bs.all id)) | none => none) = _
  rw [blsOf_m]
  show some (D.bl ((xs.map f).all id)) = _
  rw [List.all_map]; rfl
theorem any_m (f : α → Bool) (xs : List α) : Bi.run u .any [.lst (xs.map fun x => .bl (f x))] = some (.bl (xs.any f)) := by
  show (match blsOf (xs.map fun x => D.bl (f x)) with | some bs => some (D.bl (bs.any id)) | none => none) = _
  rw [blsOf_m]
  show some (D.bl ((xs.map f).any id)) = _
  rw [List.any_map]; rfl
theorem len_ml (f : α → D) (xs : List α) : Bi.run u .len [.lst (xs.map f)] = some (.int xs.length) := by rw [len_lst, List.length_map]
theorem len_mt (f : α → D) (xs : List α) : Bi.run u .len [.tup (xs.map f)] = some (.int xs.length) := by rw [len_tup, List.length_map]
theorem idx_mt [Inhabited α] (f : α → D) {xs : List α} {i : Nat} (h : i < xs.length) : idxD u (.tup (xs.map f)) (.int (i : Int)) = some (f xs[i]!) := by
  rw [idx_tup' (by rw [List.length_map]; exact h), List.getElem_map, getElem!_pos xs i h]
theorem idx_ml [Inhabited α] (f : α → D) {xs : List α} {i : Nat} (h : i < xs.length) : idxD u (.lst (xs.map f)) (.int (i : Int)) = some (f xs[i]!) := idx_mt u f h
theorem idx_mt0 [Inhabited α] (f : α → D) {xs : List α} (h : 0 < xs.length) : idxD u (.tup (xs.map f)) (.int 0) = some (f xs[0]!) := idx_mt u f h
theorem idx_ml0 [Inhabited α] (f : α → D) {xs : List α} (h : 0 < xs.length) : idxD u (.lst (xs.map f)) (.int 0) = some (f xs[0]!) := idx_mt u f h
theorem idx_mtL [Inhabited α] (f : α → D) {xs : List α} (h : 0 < xs.length) : idxD u (.tup (xs.map f)) (.int (-1)) = some (f xs[xs.length - 1]!) := by
  show atI (xs.map f) (-1) = _
  unfold atI ixN
  rw [List.length_map, if_neg (by omega), if_pos (by omega)]
  show (xs.map f)[((-1 : Int) + xs.length).toNat]? = _
  rw [show ((-1 : Int) + xs.length).toNat = xs.length - 1 by omega, List.getElem?_map, List.getElem?_eq_getElem (by omega), getElem!_pos xs _ (by omega)]
  rfl
theorem idx_mlL [Inhabited α] (f : α → D) {xs : List α} (h : 0 < xs.length) : idxD u (.lst (xs.map f)) (.int (-1)) = some (f xs[xs.length - 1]!) := idx_mtL u f h
end
/-- cuts of what is mapped -/
theorem cut_map {α β : Type} (f : α → β) (xs : List α) (lo hi : Option Int) : cut (xs.map f) lo hi = (cut xs lo hi).map f := by
  unfold cut
  rw [List.length_map, List.map_take, List.map_drop]
theorem slT_mt {α : Type} (f : α → D) (xs : List α) (lo hi : Option Int) (u : U) : slTD (.tup (xs.map f)) lo hi u = .ok (.tup ((cut xs lo hi).map f)) u := by
  show Res.ok (D.tup (cut (xs.map f) lo hi)) u = _
  rw [cut_map]
theorem slT_ml {α : Type} (f : α → D) (xs : List α) (lo hi : Option Int) (u : U) : slTD (.lst (xs.map f)) lo hi u = .ok (.lst ((cut xs lo hi).map f)) u := by
  show Res.ok (D.lst (cut (xs.map f) lo hi)) u = _
  rw [cut_map]
theorem sl_ml {α : Type} (f : α → D) (xs : List α) (lo hi : Option Int) (u : U) : slD (.lst (xs.map f)) lo hi u = .ok ((cut xs lo hi).map f) u := by
  show Res.ok (cut (xs.map f) lo hi) u = _
  rw [cut_map]
theorem cut_none {α : Type} (xs : List α) : cut xs none none = xs := by
  unfold cut sIx
  simp
theorem cut_from {α : Type} (xs : List α) (i : Nat) : cut xs (some (i : Int)) none = xs.drop i := by
  unfold cut sIx
  dsimp only
  rw [if_neg (by omega), Int.toNat_natCast]
  rcases Nat.le_total i xs.length with h | h
  · rw [Nat.min_eq_left h, List.take_of_length_le (by simp)]
  · rw [Nat.min_eq_right h, List.drop_eq_nil_of_le h, List.drop_eq_nil_of_le (Nat.le_refl _)]; simp
theorem cut_to {α : Type} (xs : List α) (i : Nat) : cut xs none (some (i : Int)) = xs.take i := by
  unfold cut sIx
  dsimp only
  rw [if_neg (by omega), Int.toNat_natCast, List.drop_zero, Nat.sub_zero]
  rcases Nat.le_total i xs.length with h | h
  · rw [Nat.min_eq_left h]
  · rw [Nat.min_eq_right h, List.take_length, List.take_of_length_le h]
theorem cut_to1 {α : Type} (xs : List α) : cut xs none (some (-1 : Int)) = xs.dropLast := by
  unfold cut sIx
  dsimp only
  rw [if_pos (by omega), List.drop_zero, Nat.sub_zero, show ((-1 : Int) + xs.length).toNat = xs.length - 1 by omega, List.dropLast_eq_take]
theorem lst_l (ds : List D) (u : U) : lstD (.lst ds) u = .ok ds u := nr rfl
theorem lst_t (ds : List D) (u : U) : lstD (.tup ds) u = .ok ds u := nr rfl
theorem rev_l (ds : List D) (u : U) : revD (.lst ds) u = .ok ds.reverse u := nr rfl
theorem rep_l {ds : List D} {n : Nat} (h : n ≤ 1000) (h2 : ds.length ≤ 1000) (u : U) : repD (.lst ds) (.int (n : Int)) u = .ok (List.replicate n ds).flatten u := by
  show (if 0 ≤ (n : Int) ∧ (n : Int) ≤ 1000 ∧ ds.length ≤ 1000 then ret (List.replicate (n : Int).toNat ds).flatten else stuck : M (List D)) u = _
  rw [if_pos ⟨by omega, by omega, h2⟩]; rfl
theorem mul_t {ds : List D} {n : Nat} (h0 : 1 ≤ n) (h : n ≤ 1000) (h1 : 0 < ds.length) (h2 : ds.length ≤ 1000) : BinO.run .mul (.tup ds) (.int (n : Int)) = some (.tup (List.replicate n ds).flatten) := by
  show (if 1 ≤ (n : Int) ∧ (n : Int) ≤ 1000 ∧ ds.length ≤ 1000 ∧ 0 < ds.length then some (D.tup (List.replicate (n : Int).toNat ds).flatten) else none) = _
  rw [if_pos ⟨by omega, by omega, h2, h1⟩]; rfl
theorem sort_m {α : Type} (f : α → Int) {xs : List α} {d : D} (h : itsOf d = some (xs.map fun x => .int (f x))) (hl : xs.length < 64) : sortedD d = some (((xs.map f).mergeSort (fun a b => decide (a ≤ b))).map D.int) := by
  unfold sortedD
  rw [h]
  show (match intsOf (xs.map fun x => D.int (f x)) with | some ns => if ns.length < 64 then some ((ns.mergeSort (fun a b => decide (a ≤ b))).map D.int) else none | none => none) = _
  rw [intsOf_m]
  show (if (xs.map f).length < 64 then _ else _) = _
  rw [if_pos (by rw [List.length_map]; exact hl)]
theorem cast_1 (n : Nat) : (n : Int) + 1 = ((n + 1 : Nat) : Int) := by omega
theorem mem_range' {i n x : Nat} (h : x ∈ List.range' i n) : i ≤ x ∧ x < i + n := List.mem_range'_1.mp h
end Lv

end Part_Pl5

section Part_Pl7
set_option maxRecDepth 100000
set_option maxHeartbeats 1000000
/-! Pl7: equality of data; own lists stored to. -/
namespace Lv
open PySem
mutual
/-- == of data -/
def eqt : D → D → Bool
  | .non, .non => true
  | .bl a, .bl b => a == b
  | .bl a, .int j => (if a then 1 else 0) == j
  | .int i, .bl b => i == (if b then 1 else 0)
  | .int i, .int j => decide (i = j)
  | .str x, .str y => x == y
  | .lst xs, .lst ys => eqts xs ys
  | .tup xs, .tup ys => eqts xs ys
  | _, _ => false
def eqts : List D → List D → Bool
  | [], [] => true
  | x :: xs, y :: ys => eqt x y && eqts xs ys
  | _, _ => false
end
mutual
theorem eqt_py : ∀ {d e : D} {p q : PyData}, toPy d = some p → toPy e = some q → PyData.eqv p q = eqt d e
  | .non, e, p, q, h1, h2 => by
    cases h1
    cases e <;> first | (cases h2; done) | (cases h2; rfl) | (unfold toPy at h2; split at h2 <;> cases h2; rfl)
  | .bl a, e, p, q, h1, h2 => by
    cases h1
    cases e <;> first | (cases h2; done) | (cases h2; rfl) | (unfold toPy at h2; split at h2 <;> cases h2; rfl)
  | .int a, e, p, q, h1, h2 => by
    cases h1
    cases e <;> first | (cases h2; done) | (cases h2; rfl) | (unfold toPy at h2; split at h2 <;> cases h2; rfl)
  | .str a, e, p, q, h1, h2 => by
    cases h1
    cases e <;> first | (cases h2; done) | (cases h2; rfl) | (unfold toPy at h2; split at h2 <;> cases h2; rfl)
  | .tup xs, e, p, q, h1, h2 => by
    unfold toPy at h1
    cases e1 : toPys xs with
    | none => rw [e1] at h1; cases h1
    | some ps =>
      rw [e1] at h1
      cases h1
      cases e with
      | tup ys =>
        unfold toPy at h2
        cases e2 : toPys ys with
        | none => rw [e2] at h2; cases h2
        | some qs => rw [e2] at h2; cases h2; exact eqts_py e1 e2
      | lst ys => unfold toPy at h2; split at h2 <;> cases h2; rfl
      | _ => cases h2 <;> rfl
  | .lst xs, e, p, q, h1, h2 => by
    unfold toPy at h1
    cases e1 : toPys xs with
    | none => rw [e1] at h1; cases h1
    | some ps =>
      rw [e1] at h1
      cases h1
      cases e with
      | lst ys =>
        unfold toPy at h2
        cases e2 : toPys ys with
        | none => rw [e2] at h2; cases h2
        | some qs => rw [e2] at h2; cases h2; exact eqts_py e1 e2
      | tup ys => unfold toPy at h2; split at h2 <;> cases h2; rfl
      | _ => cases h2 <;> rfl
  | .cell _, _, _, _, h1, _ => by cases h1
  | .fn _, _, _, _, h1, _ => by cases h1
  | .scr _, _, _, _, h1, _ => by cases h1
theorem eqts_py : ∀ {ds es : List D} {ps qs : List PyData}, toPys ds = some ps → toPys es = some qs → PyData.eqvAll ps qs = eqts ds es
  | [], [], _, _, h1, h2 => by cases h1; cases h2; rfl
  | [], e :: es, _, _, h1, h2 => by
    cases h1
    unfold toPys at h2
    split at h2
    · cases h2; rfl
    · cases h2
  | d :: ds, [], _, _, h1, h2 => by
    cases h2
    unfold toPys at h1
    split at h1
    · cases h1; rfl
    · cases h1
  | d :: ds, e :: es, _, _, h1, h2 => by
    unfold toPys at h1 h2
    split at h1
    · rename_i x xs a1 a2
      cases h1
      split at h2
      · rename_i y ys b1 b2
        cases h2
        show (PyData.eqv x y && PyData.eqvAll xs ys) = (eqt d e && eqts ds es)
        rw [eqt_py a1 b1, eqts_py a2 b2]
      · cases h2
    · cases h1
end
theorem pn_pys {n : Nat} : ∀ {ds : List D}, (∀ d ∈ ds, ∃ p, toPy d = some p ∧ p.canLay0 = true ∧ p.depth ≤ n) → ∃ ps, toPys ds = some ps ∧ PyData.canLayAll0 ps = true ∧ PyData.depthAll ps ≤ n
  | [], _ => ⟨[], rfl, rfl, Nat.zero_le _⟩
  | d :: ds, h => by
    obtain ⟨p, h1, h2, h3⟩ := h d List.mem_cons_self
    obtain ⟨ps, g1, g2, g3⟩ := pn_pys (ds := ds) fun x hx => h x (List.mem_cons_of_mem _ hx)
    refine ⟨p :: ps, ?_, ?_, ?_⟩
    · unfold toPys; rw [h1, g1]
    · show (p.canLay0 && PyData.canLayAll0 ps) = true
      rw [h2, g2]; rfl
    · show max p.depth (PyData.depthAll ps) ≤ n
      omega
theorem pn_py {n : Nat} {d : D} (h : Pn n d) : ∃ p, toPy d = some p ∧ p.canLay0 = true ∧ p.depth ≤ n := by
  induction h with
  | non n => exact ⟨_, rfl, rfl, Nat.zero_le _⟩
  | bl n b => exact ⟨_, rfl, rfl, Nat.zero_le _⟩
  | int n i => exact ⟨_, rfl, rfl, Nat.zero_le _⟩
  | str n x hs =>
    refine ⟨_, rfl, ?_, Nat.zero_le _⟩
    exact (Bool.and_eq_true_iff.mp hs).1
  | @tup n ds h1 h2 ih =>
    obtain ⟨ps, g1, g2, g3⟩ := pn_pys ih
    refine ⟨.tuple ps, by unfold toPy; rw [g1], g2, ?_⟩
    show PyData.depthAll ps + 1 ≤ n + 1
    omega
  | @lst n ds h1 h2 ih =>
    obtain ⟨ps, g1, g2, g3⟩ := pn_pys ih
    refine ⟨.list ps, by unfold toPy; rw [g1], g2, ?_⟩
    show PyData.depthAll ps + 1 ≤ n + 1
    omega
theorem eq_run {n m : Nat} {d e : D} (h1 : Pn n d) (h2 : Pn m e) (hn : n ≤ 64) (hm : m ≤ 64) : CmpO.run .eq d e = some (eqt d e) := by
  obtain ⟨p, a1, a2, a3⟩ := pn_py h1
  obtain ⟨q, b1, b2, b3⟩ := pn_py h2
  show eqD d e = _
  unfold eqD
  rw [a1, b1]
  show (if (SeqAt.shaped p && SeqAt.shaped q) = true then some (PyData.eqv p q) else none) = _
  have s1 : SeqAt.shaped p = true := by unfold SeqAt.shaped; rw [a2, decide_eq_true (by omega)]; rfl
  have s2 : SeqAt.shaped q = true := by unfold SeqAt.shaped; rw [b2, decide_eq_true (by omega)]; rfl
  rw [s1, s2]
  exact (if_pos rfl).trans (congrArg some (eqt_py a1 b1))
theorem ne_run {n m : Nat} {d e : D} (h1 : Pn n d) (h2 : Pn m e) (hn : n ≤ 64) (hm : m ≤ 64) : CmpO.run .ne d e = some (!eqt d e) := by
  have z : eqD d e = some (eqt d e) := eq_run h1 h2 hn hm
  show (match eqD d e with | some c => some (!c) | none => none) = _
  rw [z]
theorem eqts_refl : ∀ {ds : List D}, (∀ d ∈ ds, eqt d d = true) → eqts ds ds = true
  | [], _ => rfl
  | d :: ds, h => by
    show (eqt d d && eqts ds ds) = true
    rw [h d List.mem_cons_self, eqts_refl fun x hx => h x (List.mem_cons_of_mem _ hx)]; rfl
theorem eqt_refl {n : Nat} {d : D} (h : Pn n d) : eqt d d = true := by
  induction h with
  | non n => rfl
  | bl n b => cases b <;> rfl
  | int n i => exact decide_eq_true rfl
  | str n x hs => exact beq_self_eq_true x
  | tup h1 h2 ih => exact eqts_refl ih
  | lst h1 h2 ih => exact eqts_refl ih
theorem eqt_int (i j : Int) : eqt (.int i) (.int j) = decide (i = j) := rfl
theorem eqt_tup (xs ys : List D) : eqt (.tup xs) (.tup ys) = eqts xs ys := rfl
theorem eqt_lst (xs ys : List D) : eqt (.lst xs) (.lst ys) = eqts xs ys := rfl
theorem eqts_cons (x y : D) (xs ys : List D) : eqts (x :: xs) (y :: ys) = (eqt x y && eqts xs ys) := rfl
theorem eqts_nil : eqts [] [] = true := rfl
theorem eqt_Q (a b : Rat) : eqt (Q a) (Q b) = decide (a = b) := by
  show (decide (a.num = b.num) && (decide ((a.den : Int) = b.den) && true)) = _
  rw [Bool.and_true]
  by_cases e : a = b
  · subst e; simp
  · rw [decide_eq_false e]
    by_cases h1 : a.num = b.num
    · have h2 : ¬ ((a.den : Int) = b.den) := fun h2 => e (Rat.ext h1 (by omega))
      rw [decide_eq_false h2, Bool.and_false]
    · rw [decide_eq_false h1, Bool.false_and]
theorem eqts_map {α : Type} {f : α → D} [DecidableEq α] (h : ∀ a b, eqt (f a) (f b) = decide (a = b)) : ∀ xs ys : List α, eqts (xs.map f) (ys.map f) = decide (xs = ys)
  | [], [] => rfl
  | [], _ :: _ => rfl
  | _ :: _, [] => rfl
  | x :: xs, y :: ys => by
    show (eqt (f x) (f y) && eqts (xs.map f) (ys.map f)) = _
    rw [h, eqts_map h xs ys]
    by_cases c : x = y
    · subst c
      rw [decide_eq_true rfl, Bool.true_and]
      by_cases c2 : xs = ys
      · subst c2; simp
      · rw [decide_eq_false c2, decide_eq_false (by simpa using c2)]
    · rw [decide_eq_false c, Bool.false_and, decide_eq_false fun e => c (List.cons.inj e).1]
theorem pn_Q (a : Rat) : Pn 1 (Q a) := by
  refine .tup (fun d hd => ?_) (by simp)
  simp only [List.mem_cons, List.not_mem_nil, or_false] at hd
  rcases hd with rfl | rfl <;> exact .int _ _
theorem pn_Qs {qs : List Rat} (h : qs.length ≤ 1000000) : Pn 2 (.tup (qs.map Q)) := by
  refine .tup (fun d hd => ?_) (by rw [List.length_map]; exact h)
  obtain ⟨q, _, rfl⟩ := List.mem_map.mp hd
  exact pn_Q q
theorem pn_tup {n : Nat} {α : Type} {f : α → D} {xs : List α} (h : ∀ x ∈ xs, Pn n (f x)) (hl : xs.length ≤ 1000000) : Pn (n + 1) (.tup (xs.map f)) := by
  refine .tup (fun d hd => ?_) (by rw [List.length_map]; exact hl)
  obtain ⟨x, hx, rfl⟩ := List.mem_map.mp hd
  exact h x hx
theorem pn_lst {n : Nat} {α : Type} {f : α → D} {xs : List α} (h : ∀ x ∈ xs, Pn n (f x)) (hl : xs.length ≤ 1000000) : Pn (n + 1) (.lst (xs.map f)) := by
  refine .lst (fun d hd => ?_) (by rw [List.length_map]; exact hl)
  obtain ⟨x, hx, rfl⟩ := List.mem_map.mp hd
  exact h x hx
theorem pn_tup2 {n : Nat} {a b : D} (ha : Pn n a) (hb : Pn n b) : Pn (n + 1) (.tup [a, b]) := by
  refine .tup (fun d hd => ?_) (by simp)
  simp only [List.mem_cons, List.not_mem_nil, or_false] at hd
  rcases hd with rfl | rfl <;> assumption
theorem pn_tup3 {n : Nat} {a b c : D} (ha : Pn n a) (hb : Pn n b) (hc : Pn n c) : Pn (n + 1) (.tup [a, b, c]) := by
  refine .tup (fun d hd => ?_) (by simp)
  simp only [List.mem_cons, List.not_mem_nil, or_false] at hd
  rcases hd with rfl | rfl | rfl <;> assumption
/-! ### is -/
theorem is_nn : CmpO.run .is_ .non .non = some true := nr rfl
theorem is_ln (ds : List D) : CmpO.run .is_ (.lst ds) .non = some false := nr rfl
theorem is_tn (ds : List D) : CmpO.run .is_ (.tup ds) .non = some false := nr rfl
theorem is_in (i : Int) : CmpO.run .is_ (.int i) .non = some false := nr rfl
theorem isnot_nn : CmpO.run .isnot .non .non = some false := nr rfl
theorem isnot_ln (ds : List D) : CmpO.run .isnot (.lst ds) .non = some true := nr rfl
theorem isnot_tn (ds : List D) : CmpO.run .isnot (.tup ds) .non = some true := nr rfl
theorem isnot_in (i : Int) : CmpO.run .isnot (.int i) .non = some true := nr rfl
theorem is_bb (a b : Bool) : CmpO.run .is_ (.bl a) (.bl b) = some (a == b) := nr rfl
theorem isnot_bb (a b : Bool) : CmpO.run .isnot (.bl a) (.bl b) = some (!(a == b)) := nr rfl
/-! ### own lists -/
theorem frz_own (ds : List D) (e : Env) : frzD (.own ds :: e) 0 = .val (.lst ds) :: e := nr rfl
theorem frz_val (d : D) (e : Env) : frzD (.val d :: e) 0 = .val d :: e := nr rfl
theorem frz_no (e : Env) : frzD (.no :: e) 0 = .no :: e := nr rfl
theorem frz_s (s : Sl) (e : Env) (i : Nat) : frzD (s :: e) (i + 1) = s :: frzD e i := by
  have h : getS (s :: e) (i + 1) = getS e i := rfl
  have h2 : ∀ t, setS (s :: e) (i + 1) t = s :: setS e i t := fun _ => rfl
  unfold frzD
  rw [h]
  cases getS e i with
  | own ds => exact h2 _
  | val d => rfl
  | no => rfl
def appS (i : Nat) (env : Env) (d : D) (s : Sl) : M Out := match s with
  | .own ds => if ds.length < line then ret (.nxt (setS env i (.own (ds ++ [d])))) else stuck
  | _ => stuck
theorem app_K (i : Nat) (env : Env) (d : D) (u : U) : appD i env d u = appS i env d (getS env i) u := nr rfl
theorem appS_own {i : Nat} {env : Env} {d : D} {ds : List D} {u : U} (h : ds.length ≤ 1000000) : appS i env d (.own ds) u = .ok (.nxt (setS env i (.own (ds ++ [d])))) u := by
  show (if ds.length < line then ret (.nxt (setS env i (.own (ds ++ [d])))) else stuck : M Out) u = _
  rw [if_pos (by unfold line; omega)]
def extS (i : Nat) (env : Env) (d : D) (s : Sl) : M Out := match s, d with
  | .own ds, .lst xs => if ds.length + xs.length ≤ line then ret (.nxt (setS env i (.own (ds ++ xs)))) else stuck
  | _, _ => stuck
theorem ext_K (i : Nat) (env : Env) (d : D) (u : U) : extD i env d u = extS i env d (getS env i) u := nr rfl
theorem extS_own {i : Nat} {env : Env} {ds xs : List D} {u : U} (h : ds.length + xs.length ≤ 1000000) : extS i env (.lst xs) (.own ds) u = .ok (.nxt (setS env i (.own (ds ++ xs)))) u := by
  show (if ds.length + xs.length ≤ line then ret (.nxt (setS env i (.own (ds ++ xs)))) else stuck : M Out) u = _
  rw [if_pos (by unfold line; omega)]
def insS (i : Nat) (env : Env) (x d : D) (s : Sl) : M Out := match s, x with
  | .own ds, .int k => if 0 ≤ k ∧ k ≤ ds.length ∧ ds.length < 1000000 then ret (.nxt (setS env i (.own (ds.take k.toNat ++ [d] ++ ds.drop k.toNat)))) else stuck
  | _, _ => stuck
theorem ins_K (i : Nat) (env : Env) (x d : D) (u : U) : insD i env x d u = insS i env x d (getS env i) u := nr rfl
theorem insS_own {i : Nat} {env : Env} {d : D} {ds : List D} {k : Nat} {u : U} (h : k ≤ ds.length) (h2 : ds.length < 1000000) : insS i env (.int (k : Int)) d (.own ds) u = .ok (.nxt (setS env i (.own (ds.take k ++ [d] ++ ds.drop k)))) u := by
  show (if 0 ≤ (k : Int) ∧ (k : Int) ≤ ds.length ∧ ds.length < 1000000 then ret (.nxt (setS env i (.own (ds.take (k : Int).toNat ++ [d] ++ ds.drop (k : Int).toNat)))) else stuck : M Out) u = _
  rw [if_pos ⟨by omega, by omega, h2⟩]; rfl
def setK (i : Nat) (d : D) (env : Env) (k : D) (s : Sl) : M Env := match s, k with
  | .own ds, .int k => match ixN ds.length k with
    | some j => ret (setS env i (.own (ds.set j d)))
    | none => stuck
  | .val (.cell c), .int k => fun u => match u[c]? with
    | some ds => match ixN ds.length k with
      | some j => .ok env (u.set c (ds.set j d))
      | none => .bad
    | none => .bad
  | _, _ => stuck
theorem set_K (i : Nat) (d : D) (env : Env) (k : D) (u : U) : setD i d env k u = setK i d env k (getS env i) u := nr rfl
theorem setK_own {i : Nat} {d : D} {env : Env} {ds : List D} {j : Nat} {u : U} (h : j < ds.length) : setK i d env (.int (j : Int)) (.own ds) u = .ok (setS env i (.own (ds.set j d))) u := by
  have e : ixN ds.length (j : Int) = some j := by
    unfold ixN
    rw [if_pos (by omega), if_pos (by omega)]; rfl
  show (match ixN ds.length (j : Int) with | some j => ret (setS env i (.own (ds.set j d))) | none => stuck : M Env) u = _
  rw [e]
/-! ### no turn at all -/
theorem rng1_0 : rng1D (.int 0) = some [] := nr rfl
theorem for_nil (body : D → Env → M Out) (env : Env) (u : U) : forRun body [] env u = .ok (.nxt env) u := nr rfl
theorem lcRun_nil (body : D → M (Option D)) (u : U) : lcRun body [] u = .ok [] u := nr rfl
theorem ne_nil0 : CmpO.run .ne (.lst []) (.lst []) = some false := nr rfl
theorem map_range_succ {f : Nat → D} (n : Nat) : (List.range n).map f ++ [f n] = (List.range (n + 1)).map f := by
  rw [List.range_succ, List.map_append]; rfl
/-! ### a row of statements in parts -/
def takeS : Nat → CSs → CSs
  | n + 1, .cons s ss => .cons s (takeS n ss)
  | _, _ => .nil
def dropS : Nat → CSs → CSs
  | 0, ss => ss
  | n + 1, .cons _ ss => dropS n ss
  | _ + 1, .nil => .nil
def stmtS : Nat → CSs → CS
  | 0, .cons s _ => s
  | n + 1, .cons _ ss => stmtS n ss
  | _, .nil => .pass
theorem thenO_assoc (C : Cfg) (P : Phi) (f : Env → M Out) (ss : CSs) (o : Out) (u : U) : (thenO (denSs C P ss) o u).bind (thenO f) = thenO (fun e u => (denSs C P ss e u).bind (thenO f)) o u := by
  cases o <;> rfl
theorem denSs_seg (C : Cfg) (P : Phi) : ∀ (n : Nat) (b : CSs) (env : Env) (u : U), denSs C P b env u = (denSs C P (takeS n b) env u).bind (thenO (denSs C P (dropS n b)))
  | 0, b, env, u => rfl
  | n + 1, .nil, env, u => rfl
  | n + 1, .cons s ss, env, u => by
    show (denS C P s env u).bind (thenO (denSs C P ss)) = ((denS C P s env u).bind (thenO (denSs C P (takeS n ss)))).bind (thenO (denSs C P (dropS n ss)))
    rw [Res.bind_assoc']
    congr 1
    funext o u1
    cases o with
    | nxt e => exact denSs_seg C P n ss e u1
    | ret d => rfl
    | brk e => rfl
    | cnt e => rfl
theorem wp_seg {C : Cfg} {P : Phi} (n : Nat) {b : CSs} {env : Env} {u : U} {Q : Out → U → Prop} (h : Wp (denSs C P (takeS n b) env u) fun o u1 => Wp (thenO (denSs C P (dropS n b)) o u1) Q) : Wp (denSs C P b env u) Q := by
  rw [denSs_seg C P n b]
  exact Wp.bind h
/-- the first part ends with an env -/
theorem wp_nxt {C : Cfg} {P : Phi} (n : Nat) {b : CSs} {env : Env} {u : U} {Q : Out → U → Prop} {R : Env → U → Prop} (h : Wp (denSs C P (takeS n b) env u) fun o u1 => ∃ e, o = .nxt e ∧ R e u1) (q : ∀ e u1, R e u1 → Wp (denSs C P (dropS n b) e u1) Q) : Wp (denSs C P b env u) Q := by
  refine wp_seg n (h.mono fun o u1 hq => ?_)
  obtain ⟨e, rfl, hr⟩ := hq
  exact q e u1 hr
theorem wp_end {C : Cfg} {P : Phi} {b : CSs} {env : Env} {u : U} {Q : D → U → Prop} (h : Wp (denSs C P b env u) fun o u1 => Wp (endO o u1) Q) : Wp ((denSs C P b env u).bind endO) Q := Wp.bind h
end Lv

end Part_Pl7

section Part_Pl6
set_option maxRecDepth 100000
/-! Pl6: the stepper. -/
namespace Lv
open PySem
end Lv

end Part_Pl6

set_option maxRecDepth 100000 in
open Lv in
local macro_rules | `(tactic| simp! [$ts,*]) => `(tactic| simp (disch := first | assumption | omega | (simp only [List.length_range, List.length_range', List.length_map, List.length_zipIdx, List.length_zip, List.length_append, List.length_cons, List.length_nil, List.length_take, List.length_drop, List.length_dropLast, List.length_reverse]; omega)) only [kOp_ap, kBin_ap, kNotB_ap, kNot_ap, kBl_ap, kCmpO_ap, kCmp_ap, kC2d_ap, kC2c_ap, kC2b_ap, kC2_ap, kIteB_ap, kIte_ap, kTup_ap, kNewc_ap, kIdxO_ap, kIdx_ap, kSl3_ap, kSl2_ap, kSl1_ap, kCK2_ap, kCK_ap, kCL_fn, kBi_ap, kIsi_ap, kLst_ap, kBnd_ap, kCons_ap, kOs_ap, kEs_ap, kBl1_ap, kAndB_ap, kAnd_ap, kOrB_ap, kOr_ap, kCat_ap, kLc_ap, kLstR_ap, kSF3_ap, kSF2_ap, kSF1_ap, kRep_ap, kSort_ap, kIts_ap, kR1_ap, kR2b_ap, kR2_ap, kEnm_ap, kZipb_ap, kZip_ap, kTs_ap, kNxt_ap, kAsg_ap, kOwn_ap, kExpr_ap, kRet_ap, kIns_ap, kIfB_ap, kIf_ap, kFor_ap, kPv_ap, kPo_ap, kSome_ap, kLcE_ap, kLcC_ap, kLcT_ap, kTo_ap, kWe_ap, kWd_ap, kWc_ap, kWb_ap, E_binq, E_notq, E_negq, E_andq, E_orq, E_cmpq, E_cmp2q, E_iteq, E_tupq, E_newcq, E_idxq, E_slTq, E_callq, E_callKq, E_callLq, E_biq, E_isiq, E_frq, B_soq, Os_consq, Es_consq, And_oneq, And_consq, Or_oneq, Or_consq, Cs_oneq, F_dispq, F_catq, F_lcq, F_lstq, F_lstRq, F_slq, F_revq, F_repq, F_sortedq, I_seqq, I_rng1q, I_rng2q, I_enmq, I_zipq, Ts_consq, S_asgq, S_ownq, S_parq, S_exprq, S_retq, S_insq, S_ifsq, S_forq, P_valq, P_ownq, lcB_apq, forB_apq, whlB_apq, bind_ok, mbind_ap, lift_some, ret_ap, E_loc, E_cst, E_glb, E_fnv, B_no, O_v, O_bor, Os_nil, Es_nil, asBl_bl, Cs_nil, T_nm, T_tp, T_ix, Ts_nil, S_app, S_ext, S_retN, S_whl, S_pass, S_frz, Ss_nil, Ss_cons, thenO_nxt, thenO_ret, P_nil, endO_ret, endO_nxt, getS_0, getS_s, setS_0, setS_s, add_ii, sub_ii, lt_ii, le_ii, gt_ii, ge_ii, eq_ii, pair0, pair1, gcd_ii, len_tup, len_lst, tuple_lst, int_i, neg_i, bnd_i, Cd_int, Cd_bl, Cd_non, Cd_str, startE_1, startE_2, startE_21, startE_32, startE_3, if_true, if_false, Bool.false_eq_true, decide_eq_true_eq, decide_true, decide_false, Bool.not_true, Bool.not_false, Wp_ok, Wp_bind, kW_ap, lcRun_A, lc_len2, wipe_nil, wipe_cons, its_tup, its_lst, rng1_map, rng2_map, rng2_1, enm_0, enm_k, zip_tt, zip_ll, sum_m, sum_mt, all_m, any_m, len_ml, len_mt, slT_mt, slT_ml, sl_ml, cut_none, cut_from, cut_to, cut_to1, lst_l, lst_t, rev_l, List.append_nil, List.nil_append, List.length_map, frz_own, frz_val, frz_no, frz_s, app_K, appS_own, ext_K, extS_own, set_K, setK_own, ins_K, insS_own, rng1_0, for_nil, lcRun_nil, is_nn, is_ln, is_tn, is_in, isnot_nn, isnot_ln, isnot_tn, isnot_in, is_bb, isnot_bb, ne_nil0, $ts,*])

section Part_Maj

/-! Maj: rows in order, sums of the greatest ones. No program in sight. -/
namespace Mj
def rsum : List Rat → Rat
  | [] => 0
  | x :: xs => x + rsum xs
theorem rsum_app : ∀ xs ys : List Rat, rsum (xs ++ ys) = rsum xs + rsum ys
  | [], ys => (Rat.zero_add _).symm
  | x :: xs, ys => by
    show x + rsum (xs ++ ys) = (x + rsum xs) + rsum ys
    rw [rsum_app xs ys, Rat.add_assoc]
theorem rsum_perm {xs ys : List Rat} (h : xs.Perm ys) : rsum xs = rsum ys := by
  induction h with
  | nil => rfl
  | cons x _ ih => show x + _ = x + _; rw [ih]
  | swap x y l => show y + (x + rsum l) = x + (y + rsum l); grind
  | trans _ _ h1 h2 => exact h1.trans h2
theorem rsum_foldl : ∀ (xs : List Rat) (a : Rat), xs.foldl (· + ·) a = a + rsum xs
  | [], a => (Rat.add_zero a).symm
  | x :: xs, a => by
    show xs.foldl (· + ·) (a + x) = a + (x + rsum xs)
    rw [rsum_foldl xs (a + x), Rat.add_assoc]
theorem rsum_map_add {α : Type} (f g : α → Rat) : ∀ xs : List α, rsum (xs.map fun x => f x + g x) = rsum (xs.map f) + rsum (xs.map g)
  | [] => (Rat.add_zero 0).symm
  | x :: xs => by
    show (f x + g x) + rsum (xs.map fun x => f x + g x) = (f x + rsum (xs.map f)) + (g x + rsum (xs.map g))
    rw [rsum_map_add f g xs]; grind
theorem rsum_map_sub {α : Type} (f g : α → Rat) : ∀ xs : List α, rsum (xs.map fun x => f x - g x) = rsum (xs.map f) - rsum (xs.map g)
  | [] => by show (0 : Rat) = 0 - 0; grind
  | x :: xs => by
    show (f x - g x) + rsum (xs.map fun x => f x - g x) = (f x + rsum (xs.map f)) - (g x + rsum (xs.map g))
    rw [rsum_map_sub f g xs]; grind
theorem rsum_map_const {α : Type} (c : Rat) : ∀ xs : List α, rsum (xs.map fun _ => c) = (xs.length : Rat) * c
  | [] => by show (0 : Rat) = ((0 : Nat) : Rat) * c; grind
  | x :: xs => by
    show c + rsum (xs.map fun _ => c) = ((xs.length + 1 : Nat) : Rat) * c
    rw [rsum_map_const c xs, Rat.natCast_add]; grind
theorem rsum_map_le {α : Type} {f g : α → Rat} : ∀ {xs : List α}, (∀ x ∈ xs, f x ≤ g x) → rsum (xs.map f) ≤ rsum (xs.map g)
  | [], _ => Rat.le_refl
  | x :: xs, h => by
    have h1 := h x List.mem_cons_self
    have h2 := rsum_map_le (xs := xs) fun y hy => h y (List.mem_cons_of_mem _ hy)
    show f x + rsum (xs.map f) ≤ g x + rsum (xs.map g)
    grind
theorem rsum_map_nonneg {α : Type} {f : α → Rat} : ∀ {xs : List α}, (∀ x ∈ xs, 0 ≤ f x) → 0 ≤ rsum (xs.map f)
  | [], _ => Rat.le_refl
  | x :: xs, h => by
    have h1 := h x List.mem_cons_self
    have h2 := rsum_map_nonneg (xs := xs) fun y hy => h y (List.mem_cons_of_mem _ hy)
    show 0 ≤ f x + rsum (xs.map f)
    grind
/-! ### what is above 0 -/
def hp (x : Rat) : Rat := if 0 < x then x else 0
theorem hp_nonneg (x : Rat) : 0 ≤ hp x := by unfold hp; split <;> grind
theorem le_hp (x : Rat) : x ≤ hp x := by unfold hp; split <;> grind
theorem hp_pos {x : Rat} (h : 0 ≤ x) : hp x = x := by unfold hp; split <;> grind
theorem hp_neg {x : Rat} (h : x ≤ 0) : hp x = 0 := by unfold hp; split <;> grind
theorem hp_mono {x y : Rat} (h : x ≤ y) : hp x ≤ hp y := by unfold hp; split <;> split <;> grind
/-- how much stands above t -/
def over (t : Rat) (xs : List Rat) : Rat := rsum (xs.map fun x => hp (x - t))
theorem over_perm {t : Rat} {xs ys : List Rat} (h : xs.Perm ys) : over t xs = over t ys := rsum_perm (h.map _)
theorem over_app (t : Rat) (xs ys : List Rat) : over t (xs ++ ys) = over t xs + over t ys := by
  unfold over; rw [List.map_append, rsum_app]
theorem over_nonneg (t : Rat) (xs : List Rat) : 0 ≤ over t xs := rsum_map_nonneg fun _ _ => hp_nonneg _
/-! ### order -/
def Desc (xs : List Rat) : Prop := xs.Pairwise (fun a b => b ≤ a)
def Asc (xs : List Rat) : Prop := xs.Pairwise (fun a b => a ≤ b)
theorem sum_le_over (t : Rat) : ∀ xs : List Rat, rsum xs ≤ over t xs + (xs.length : Rat) * t
  | [] => by show (0 : Rat) ≤ 0 + ((0 : Nat) : Rat) * t; grind
  | x :: xs => by
    have ih := sum_le_over t xs
    have h := le_hp (x - t)
    show x + rsum xs ≤ (hp (x - t) + over t xs) + ((xs.length + 1 : Nat) : Rat) * t
    rw [Rat.natCast_add]
    grind
theorem sum_eq_over {t : Rat} : ∀ {xs : List Rat}, (∀ x ∈ xs, t ≤ x) → rsum xs = over t xs + (xs.length : Rat) * t
  | [], _ => by show (0 : Rat) = 0 + ((0 : Nat) : Rat) * t; grind
  | x :: xs, h => by
    have ih := sum_eq_over (xs := xs) fun y hy => h y (List.mem_cons_of_mem _ hy)
    have h1 := h x List.mem_cons_self
    have h2 : hp (x - t) = x - t := hp_pos (by grind)
    show x + rsum xs = (hp (x - t) + over t xs) + ((xs.length + 1 : Nat) : Rat) * t
    rw [Rat.natCast_add, h2, ih]
    grind
theorem over_zero {t : Rat} : ∀ {xs : List Rat}, (∀ x ∈ xs, x ≤ t) → over t xs = 0
  | [], _ => rfl
  | x :: xs, h => by
    have ih := over_zero (xs := xs) fun y hy => h y (List.mem_cons_of_mem _ hy)
    have h1 := h x List.mem_cons_self
    have h2 : hp (x - t) = 0 := hp_neg (by grind)
    show hp (x - t) + over t xs = 0
    rw [h2, ih]; grind
/-- so much at most come to the k first ones of any row -/
theorem take_le_over (t : Rat) (xs : List Rat) (k : Nat) (hk : k ≤ xs.length) : rsum (xs.take k) ≤ over t xs + (k : Rat) * t := by
  have h1 := sum_le_over t (xs.take k)
  rw [List.length_take, Nat.min_eq_left hk] at h1
  have h2 : over t xs = over t (xs.take k) + over t (xs.drop k) := by rw [← over_app, List.take_append_drop]
  have h3 := over_nonneg t (xs.drop k)
  grind
theorem top_eq_over {ys : List Rat} (hd : Desc ys) {k : Nat} (h0 : 0 < k) (hk : k ≤ ys.length) : ∃ t, rsum (ys.take k) = over t ys + (k : Rat) * t := by
  have hk1 : k - 1 < ys.length := by omega
  refine ⟨ys[k - 1], ?_⟩
  have pw := List.pairwise_iff_getElem.mp hd
  have a1 : ∀ x ∈ ys.take k, ys[k - 1] ≤ x := by
    intro x hx
    obtain ⟨i, hi, rfl⟩ := List.getElem_of_mem hx
    rw [List.getElem_take]
    rw [List.length_take] at hi
    rcases Nat.lt_or_ge i (k - 1) with c | c
    · exact pw i (k - 1) (by omega) hk1 c
    · have : i = k - 1 := by omega
      subst this; exact Rat.le_refl
  have a2 : ∀ x ∈ ys.drop k, x ≤ ys[k - 1] := by
    intro x hx
    obtain ⟨i, hi, rfl⟩ := List.getElem_of_mem hx
    rw [List.getElem_drop]
    rw [List.length_drop] at hi
    exact pw (k - 1) (k + i) hk1 (by omega) (by omega)
  have h1 := sum_eq_over a1
  rw [List.length_take, Nat.min_eq_left hk] at h1
  have h2 : over ys[k - 1] ys = over ys[k - 1] (ys.take k) + over ys[k - 1] (ys.drop k) := by rw [← over_app, List.take_append_drop]
  rw [over_zero a2] at h2
  grind
/-- no more above any mark: no more in any greatest ones -/
theorem top_le {xs ys : List Rat} (hd : Desc ys) (hl : xs.length = ys.length) (h : ∀ t, over t xs ≤ over t ys) {k : Nat} (hk : k ≤ ys.length) : rsum (xs.take k) ≤ rsum (ys.take k) := by
  by_cases h0 : 0 < k
  · obtain ⟨t, e⟩ := top_eq_over hd h0 hk
    have h1 := take_le_over t xs k (by omega)
    have h2 := h t
    grind
  · have : k = 0 := by omega
    subst this; exact Rat.le_refl
/-! ### insertion -/
def insW (found : List Rat) (x : Rat) : List Rat := found.take ((found.filter fun o => !decide (x < o)).length) ++ [x] ++ found.drop ((found.filter fun o => !decide (x < o)).length)
def insAll (xs : List Rat) : List Rat := xs.foldl insW []
theorem insW_perm (found : List Rat) (x : Rat) : (insW found x).Perm (x :: found) := by
  unfold insW
  have h1 : (found.take ((found.filter fun o => !decide (x < o)).length) ++ [x] ++ found.drop ((found.filter fun o => !decide (x < o)).length)).Perm ([x] ++ found.take ((found.filter fun o => !decide (x < o)).length) ++ found.drop ((found.filter fun o => !decide (x < o)).length)) := List.Perm.append_right _ List.perm_append_comm
  refine h1.trans ?_
  rw [List.append_assoc, List.take_append_drop]
  exact List.Perm.refl _
theorem insAll_perm : ∀ (xs found : List Rat), (xs.foldl insW found).Perm (xs ++ found)
  | [], found => List.Perm.refl _
  | x :: xs, found => by
    refine (insAll_perm xs (insW found x)).trans ?_
    refine (List.Perm.append_left xs (insW_perm found x)).trans ?_
    exact List.perm_middle
theorem fil_len (p : Rat → Bool) : ∀ l : List Rat, (l.filter p).length + (l.filter fun x => !p x).length = l.length
  | [] => rfl
  | a :: l => by
    have ih := fil_len p l
    cases c : p a with
    | true => rw [List.filter_cons_of_pos c, List.filter_cons_of_neg (by simp [c])]; simp only [List.length_cons]; omega
    | false => rw [List.filter_cons_of_neg (by simp [c]), List.filter_cons_of_pos (by simp [c])]; simp only [List.length_cons]; omega
theorem filter_take {found : List Rat} (h : Asc found) (x : Rat) : found.take ((found.filter fun o => !decide (x < o)).length) = found.filter fun o => !decide (x < o) := by
  induction found with
  | nil => rfl
  | cons a r ih =>
    have hp := List.pairwise_cons.mp h
    by_cases c : x < a
    · have e : (a :: r).filter (fun o => !decide (x < o)) = [] := by
        rw [List.filter_eq_nil_iff]
        intro y hy
        rcases List.mem_cons.mp hy with e | e
        · subst e; simp [c]
        · have := hp.1 y e
          have : x < y := by grind
          simp [this]
      rw [e]; rfl
    · have e : (a :: r).filter (fun o => !decide (x < o)) = a :: r.filter fun o => !decide (x < o) := List.filter_cons_of_pos (by simp [c])
      rw [e]
      show a :: r.take _ = _
      rw [ih hp.2]
theorem insW_asc {found : List Rat} (h : Asc found) (x : Rat) : Asc (insW found x) := by
  unfold insW
  have ht := filter_take h x
  have hall : ∀ y ∈ found.take ((found.filter fun o => !decide (x < o)).length), y ≤ x := by
    rw [ht]
    intro y hy
    have := (List.mem_filter.mp hy).2
    simp at this
    exact Rat.not_lt.mp this
  have hdr : ∀ y ∈ found.drop ((found.filter fun o => !decide (x < o)).length), x ≤ y := by
    intro y hy
    by_cases c : x < y
    · exact Rat.le_of_lt c
    · exfalso
      have p1 : (found.filter fun o => !decide (x < o)).length + (found.filter fun o => decide (x < o)).length = found.length := by
        have := fil_len (fun o => !decide (x < o)) found
        simp only [Bool.not_not] at this
        exact this
      have p2 : (found.filter fun o => !decide (x < o)) = ((found.take ((found.filter fun o => !decide (x < o)).length)).filter fun o => !decide (x < o)) ++ ((found.drop ((found.filter fun o => !decide (x < o)).length)).filter fun o => !decide (x < o)) := by
        rw [← List.filter_append, List.take_append_drop]
      have p3 : ((found.take ((found.filter fun o => !decide (x < o)).length)).filter fun o => !decide (x < o)) = found.filter fun o => !decide (x < o) := by
        rw [ht, List.filter_filter]; simp
      rw [p3] at p2
      have p4 : ((found.drop ((found.filter fun o => !decide (x < o)).length)).filter fun o => !decide (x < o)) = [] := by
        have := congrArg List.length p2
        rw [List.length_append] at this
        exact List.eq_nil_of_length_eq_zero (by omega)
      have := List.filter_eq_nil_iff.mp p4 y hy
      simp [c] at this
  have hf : Asc (found.take ((found.filter fun o => !decide (x < o)).length) ++ found.drop ((found.filter fun o => !decide (x < o)).length)) := by rw [List.take_append_drop]; exact h
  obtain ⟨f1, f2, f3⟩ := List.pairwise_append.mp hf
  refine List.pairwise_append.mpr ⟨List.pairwise_append.mpr ⟨f1, List.pairwise_singleton _ _, fun a ha b hb => ?_⟩, f2, fun a ha b hb => ?_⟩
  · rw [List.mem_singleton.mp hb]; exact hall a ha
  · rcases List.mem_append.mp ha with ha | ha
    · exact f3 a ha b hb
    · rw [List.mem_singleton.mp ha]; exact hdr b hb
theorem insAll_asc : ∀ (xs found : List Rat), Asc found → Asc (xs.foldl insW found)
  | [], _, h => h
  | x :: xs, found, h => insAll_asc xs _ (insW_asc h x)
/-- a row in order, the greatest one first -/
def ordr (xs : List Rat) : List Rat := (insAll xs).reverse
theorem ordr_perm (xs : List Rat) : (ordr xs).Perm xs := by
  unfold ordr insAll
  refine (List.reverse_perm _).trans ?_
  have := insAll_perm xs []
  rwa [List.append_nil] at this
theorem ordr_desc (xs : List Rat) : Desc (ordr xs) := by
  unfold ordr
  have := insAll_asc xs [] List.Pairwise.nil
  exact List.pairwise_reverse.mpr this
theorem ordr_len (xs : List Rat) : (ordr xs).length = xs.length := (ordr_perm xs).length_eq
/-- the sum of the k greatest ones -/
def top (k : Nat) (xs : List Rat) : Rat := rsum ((ordr xs).take k)
/-- as even -/
def Even (xs ys : List Rat) : Prop := rsum xs = rsum ys ∧ ∀ k, k ≤ xs.length → top k xs ≤ top k ys
theorem even_of {xs ys : List Rat} (hl : xs.length = ys.length) (hs : rsum xs = rsum ys) (h : ∀ t, over t xs ≤ over t ys) : Even xs ys := by
  refine ⟨hs, fun k hk => ?_⟩
  exact top_le (ordr_desc ys) (by rw [ordr_len, ordr_len, hl]) (fun t => by rw [over_perm (ordr_perm xs), over_perm (ordr_perm ys)]; exact h t) (by rw [ordr_len]; omega)
/-- rows in one order are the same -/
theorem desc_uniq {xs ys : List Rat} (h : xs.Perm ys) (h1 : Desc xs) (h2 : Desc ys) : xs = ys :=
  h.eq_of_pairwise (fun a b _ _ h3 h4 => Rat.le_antisymm h4 h3) h1 h2
end Mj

end Part_Maj

section Part_Fl

/-! Fl: floods and cuts. No program in sight. -/
namespace Mj
/-! ### cuts -/
def trimQ (c : Rat) (fs : List Rat) : List Rat := fs.map fun f => f - hp (f - c)
def Cut (fs : List Rat) (p : Rat) (ts : List Rat) : Prop := (p = 0 ∧ ts = fs) ∨ (0 < p ∧ ∃ c, over c fs = p ∧ ts = trimQ c fs)
theorem rsum_map_id (xs : List Rat) : rsum (xs.map fun x => x) = rsum xs := by rw [List.map_id']
theorem cut_sum {fs ts : List Rat} {p : Rat} (h : Cut fs p ts) : rsum ts = rsum fs - p := by
  rcases h with ⟨rfl, rfl⟩ | ⟨_, c, rfl, rfl⟩
  · grind
  · unfold trimQ
    rw [rsum_map_sub (fun f => f) (fun f => hp (f - c)), rsum_map_id]
    rfl
theorem cut_len {fs ts : List Rat} {p : Rat} (h : Cut fs p ts) : ts.length = fs.length := by
  rcases h with ⟨_, rfl⟩ | ⟨_, c, _, rfl⟩
  · rfl
  · unfold trimQ; rw [List.length_map]
theorem cut_le {fs ts : List Rat} {p : Rat} (h : Cut fs p ts) {i : Nat} {a b : Rat} (ha : ts[i]? = some a) (hb : fs[i]? = some b) : a ≤ b := by
  rcases h with ⟨_, rfl⟩ | ⟨_, c, _, rfl⟩
  · rw [ha] at hb; cases hb; exact Rat.le_refl
  · unfold trimQ at ha
    rw [List.getElem?_map, hb] at ha
    cases ha
    have := hp_nonneg (b - c)
    grind
theorem cut_top {fs ts : List Rat} {p : Rat} (h : Cut fs p ts) {i : Nat} {a b x : Rat} (ha : ts[i]? = some a) (hb : fs[i]? = some b) (hlt : a < b) (hx : x ∈ ts) : ¬ a < x := by
  rcases h with ⟨_, rfl⟩ | ⟨_, c, _, rfl⟩
  · rw [ha] at hb; cases hb; grind
  · unfold trimQ at ha hx
    rw [List.getElem?_map, hb] at ha
    cases ha
    obtain ⟨f, _, rfl⟩ := List.mem_map.mp hx
    have hlt : b - hp (b - c) < b := hlt
    show ¬ (b - hp (b - c) < f - hp (f - c))
    clear hx
    unfold hp at *
    split at hlt <;> split <;> grind
theorem hp_split {f c t : Rat} (h : t ≤ c) : hp (f - hp (f - c) - t) + hp (f - c) = hp (f - t) := by
  unfold hp
  split <;> split <;> split <;> grind
theorem over_trim {c t : Rat} (h : t ≤ c) (fs : List Rat) : over t (trimQ c fs) + over c fs = over t fs := by
  unfold over trimQ
  rw [List.map_map, ← rsum_map_add]
  congr 1
  refine List.map_congr_left fun f _ => ?_
  exact hp_split h
theorem over_trim0 {c t : Rat} (h : c ≤ t) (fs : List Rat) : over t (trimQ c fs) = 0 := by
  refine over_zero fun x hx => ?_
  unfold trimQ at hx
  obtain ⟨f, _, rfl⟩ := List.mem_map.mp hx
  unfold hp
  split <;> grind
theorem over_strict {c c' : Rat} (h : c < c') : ∀ {fs : List Rat}, 0 < over c' fs → over c' fs < over c fs
  | [], h0 => by
    have : (0 : Rat) < 0 := h0
    grind
  | f :: fs, h0 => by
    have ih := over_strict h (fs := fs)
    have mono : over c' fs ≤ over c fs := rsum_map_le fun x _ => hp_mono (by grind)
    have h0 : 0 < hp (f - c') + over c' fs := h0
    show hp (f - c') + over c' fs < hp (f - c) + over c fs
    by_cases c1 : 0 < over c' fs
    · have := ih c1
      have := hp_mono (show f - c' ≤ f - c by grind)
      grind
    · have a := over_nonneg c' fs
      have : over c' fs = 0 := by grind
      have h1 : 0 < hp (f - c') := by grind
      unfold hp at *
      split at h1 <;> grind
theorem over_uniq {c c' p : Rat} {fs : List Rat} (hp0 : 0 < p) (h1 : over c fs = p) (h2 : over c' fs = p) : c = c' := by
  by_cases a : c < c'
  · have := over_strict a (fs := fs) (by grind)
    grind
  · by_cases b : c' < c
    · have := over_strict b (fs := fs) (by grind)
      grind
    · grind
theorem cut_uniq {fs ts ts' : List Rat} {p : Rat} (h : Cut fs p ts) (h' : Cut fs p ts') : ts = ts' := by
  rcases h with ⟨e, rfl⟩ | ⟨h0, c, e, rfl⟩
  · rcases h' with ⟨_, rfl⟩ | ⟨h0', _⟩
    · rfl
    · grind
  · rcases h' with ⟨e', rfl⟩ | ⟨_, c', e', rfl⟩
    · grind
    · rw [over_uniq h0 e e']
theorem cut_twice {fs ts us : List Rat} {p q : Rat} (hq : 0 ≤ q) (h : Cut fs p ts) (h2 : Cut ts q us) : Cut fs (p + q) us := by
  rcases h2 with ⟨rfl, rfl⟩ | ⟨q0, c2, e2, rfl⟩
  · rw [Rat.add_zero]; exact h
  · rcases h with ⟨rfl, rfl⟩ | ⟨p0, c1, e1, rfl⟩
    · rw [Rat.zero_add]; exact .inr ⟨q0, c2, e2, rfl⟩
    · have lt : c2 < c1 := by
        by_cases a : c2 < c1
        · exact a
        · have := over_trim0 (show c1 ≤ c2 by grind) fs
          grind
      refine .inr ⟨by grind, c2, ?_, ?_⟩
      · have := over_trim (show c2 ≤ c1 by grind) fs
        grind
      · unfold trimQ
        rw [List.map_map]
        refine List.map_congr_left fun f _ => ?_
        show f - hp (f - c1) - hp (f - hp (f - c1) - c2) = f - hp (f - c2)
        have := hp_split (f := f) (show c2 ≤ c1 by grind)
        grind
/-- lessened otherwise: fs less some gifts that come to p -/
theorem over_less (t : Rat) : ∀ (fs ss : List Rat), ss.length = fs.length → (∀ s ∈ ss, 0 ≤ s) → over t fs - rsum ss ≤ over t ((fs.zip ss).map fun p => p.1 - p.2)
  | [], [], _, _ => by show (0 : Rat) - 0 ≤ 0; grind
  | f :: fs, s :: ss, h, hs => by
    have ih := over_less t fs ss (by simpa using h) fun x hx => hs x (List.mem_cons_of_mem _ hx)
    have h0 := hs s List.mem_cons_self
    have : hp (f - t) - s ≤ hp (f - s - t) := by
      unfold hp
      split <;> split <;> grind
    show hp (f - t) + over t fs - (s + rsum ss) ≤ hp (f - s - t) + over t ((fs.zip ss).map fun p => p.1 - p.2)
    grind
theorem cut_even {fs ts ss : List Rat} {p : Rat} (h : Cut fs p ts) (hl : ss.length = fs.length) (hs : ∀ s ∈ ss, 0 ≤ s) (he : rsum ss = p) : ∀ t, over t ts ≤ over t ((fs.zip ss).map fun p => p.1 - p.2) := by
  intro t
  have a := over_less t fs ss hl hs
  rcases h with ⟨rfl, rfl⟩ | ⟨h0, c, e, rfl⟩
  · grind
  · by_cases hc : c ≤ t
    · rw [over_trim0 hc]; exact over_nonneg _ _
    · have := over_trim (show t ≤ c by grind) fs
      grind
/-! ### floods -/
/-- the level of a flood upon the m lowest floors -/
def lev (low : List Int) (p : Int) (m : Nat) : Rat := Rat.divInt (p + (low.take m).sum) m
def IsPick (low : List Int) (p : Int) (m : Nat) : Prop := 1 ≤ m ∧ m ≤ low.length ∧ (∀ j, 1 ≤ j → j < m → ((low.getD j 0 : Int) : Rat) < lev low p j) ∧ (m < low.length → ¬ ((low.getD m 0 : Int) : Rat) < lev low p m)
theorem lev_mul (low : List Int) (p : Int) {m : Nat} (h : 1 ≤ m) : lev low p m * (m : Rat) = ((p + (low.take m).sum : Int) : Rat) := by
  unfold lev
  rw [Rat.divInt_eq_div]
  have : (m : Rat) ≠ 0 := by
    intro e
    have : ((m : Nat) : Rat) = ((0 : Nat) : Rat) := e
    have := Rat.natCast_inj.mp this
    omega
  show (((p + (low.take m).sum : Int) : Rat) / ((m : Int) : Rat)) * (m : Rat) = _
  rw [Rat.intCast_natCast, Rat.div_mul_cancel this]
theorem pick_ex (low : List Int) (p : Int) (h : 1 ≤ low.length) : ∃ m, IsPick low p m := by
  have key : ∀ (f m : Nat), low.length ≤ m + f → 1 ≤ m → m ≤ low.length → (∀ j, 1 ≤ j → j < m → ((low.getD j 0 : Int) : Rat) < lev low p j) → ∃ m, IsPick low p m := by
    intro f
    induction f with
    | zero =>
      intro m h1 h2 h3 h4
      exact ⟨m, h2, h3, h4, fun z => by omega⟩
    | succ f ih =>
      intro m h1 h2 h3 h4
      by_cases c : m < low.length ∧ ((low.getD m 0 : Int) : Rat) < lev low p m
      · refine ih (m + 1) (by omega) (by omega) (by omega) fun j j1 j2 => ?_
        by_cases e : j = m
        · subst e; exact c.2
        · exact h4 j j1 (by omega)
      · exact ⟨m, h2, h3, h4, fun z w => c ⟨z, w⟩⟩
  exact key low.length 1 (by omega) (by omega) h fun j j1 j2 => by omega
theorem pick_uniq {low : List Int} {p : Int} {m m' : Nat} (h : IsPick low p m) (h' : IsPick low p m') : m = m' := by
  obtain ⟨a1, a2, a3, a4⟩ := h
  obtain ⟨b1, b2, b3, b4⟩ := h'
  rcases Nat.lt_trichotomy m m' with c | c | c
  · exact absurd (b3 m a1 c) (a4 (by omega))
  · exact c
  · exact absurd (a3 m' b1 c) (b4 (by omega))
theorem take_sum_succ {low : List Int} {j : Nat} (h : j < low.length) : (low.take (j + 1)).sum = (low.take j).sum + low.getD j 0 := by
  rw [List.take_succ_eq_append_getElem h, List.sum_append, List.getD_eq_getElem?_getD, List.getElem?_eq_getElem h]
  simp
theorem pick_above {low : List Int} {p : Int} {m : Nat} (h0 : 0 < p) (h : IsPick low p m) : ∀ j, 1 ≤ j → j ≤ m → ((low.getD (j - 1) 0 : Int) : Rat) < lev low p j := by
  obtain ⟨a1, a2, a3, a4⟩ := h
  intro j
  induction j with
  | zero => intro z; omega
  | succ j ih =>
    intro _ hj
    have m1 := lev_mul low p (m := j + 1) (by omega)
    rw [take_sum_succ (show j < low.length by omega)] at m1
    show ((low.getD j 0 : Int) : Rat) < lev low p (j + 1)
    by_cases e : j = 0
    · subst e
      have e2 : lev low p 1 * ((1 : Nat) : Rat) = lev low p 1 := by
        show lev low p 1 * 1 = _
        grind
      rw [show 0 + 1 = 1 from rfl] at m1 ⊢
      rw [e2] at m1
      rw [m1]
      apply Rat.intCast_lt_intCast.mpr
      simp
      omega
    · have b := a3 j (by omega) (by omega)
      have m2 := lev_mul low p (m := j) (by omega)
      have e3 : ((p + ((low.take j).sum + low.getD j 0) : Int) : Rat) = ((p + (low.take j).sum : Int) : Rat) + ((low.getD j 0 : Int) : Rat) := by
        rw [← Rat.intCast_add]; congr 1; omega
      rw [e3, ← m2] at m1
      have j0 : (0 : Rat) < (j : Rat) := Rat.natCast_pos.mpr (by omega)
      have j1 : ((j + 1 : Nat) : Rat) = (j : Rat) + 1 := by rw [Rat.natCast_add]; rfl
      rw [j1] at m1
      have j2 : (0 : Rat) < (j : Rat) + 1 := by grind
      by_cases z : ((low.getD j 0 : Int) : Rat) < lev low p (j + 1)
      · exact z
      · exfalso
        have z2 : lev low p (j + 1) ≤ ((low.getD j 0 : Int) : Rat) := by grind
        have z3 : lev low p (j + 1) * ((j : Rat) + 1) ≤ ((low.getD j 0 : Int) : Rat) * ((j : Rat) + 1) := Rat.mul_le_mul_of_nonneg_right z2 (Rat.le_of_lt j2)
        have z4 : ((low.getD j 0 : Int) : Rat) * (j : Rat) < lev low p j * (j : Rat) := Rat.mul_lt_mul_of_pos_right b j0
        grind
def castL (xs : List Int) : List Rat := xs.map fun (n : Int) => (n : Rat)
theorem rsum_cast : ∀ xs : List Int, rsum (castL xs) = ((xs.sum : Int) : Rat)
  | [] => rfl
  | x :: xs => by
    show (x : Rat) + rsum (castL xs) = _
    rw [rsum_cast xs, List.sum_cons, Rat.intCast_add]
/-- the flood comes to what is poured -/
theorem pick_sum {low : List Int} {p : Int} {m : Nat} (h0 : 0 < p) (hs : low.Pairwise (· ≤ ·)) (h : IsPick low p m) : rsum (low.map fun (g : Int) => hp (lev low p m - (g : Rat))) = (p : Rat) := by
  have ab := pick_above h0 h
  obtain ⟨a1, a2, a3, a4⟩ := h
  have pw := List.pairwise_iff_getElem.mp hs
  have gd : ∀ i (hi : i < low.length), low.getD i 0 = low[i] := fun i hi => by rw [List.getD_eq_getElem?_getD, List.getElem?_eq_getElem hi]; rfl
  have f1 : ∀ g ∈ low.take m, hp (lev low p m - (g : Rat)) = lev low p m - (g : Rat) := by
    intro g hg
    obtain ⟨i, hi, rfl⟩ := List.getElem_of_mem hg
    rw [List.length_take] at hi
    rw [List.getElem_take]
    have b := ab m a1 (Nat.le_refl _)
    rw [gd (m - 1) (by omega)] at b
    have c : ((low[i] : Int) : Rat) ≤ ((low[m - 1] : Int) : Rat) := by
      apply Rat.intCast_le_intCast.mpr
      rcases Nat.lt_or_ge i (m - 1) with c | c
      · exact pw i (m - 1) (by omega) (by omega) c
      · have : i = m - 1 := by omega
        subst this; exact Int.le_refl _
    exact hp_pos (by grind)
  have f2 : ∀ g ∈ low.drop m, hp (lev low p m - (g : Rat)) = 0 := by
    intro g hg
    obtain ⟨i, hi, rfl⟩ := List.getElem_of_mem hg
    rw [List.length_drop] at hi
    rw [List.getElem_drop]
    have b := a4 (by omega)
    rw [gd m (by omega)] at b
    have c : ((low[m]'(by omega) : Int) : Rat) ≤ ((low[m + i]'(by omega) : Int) : Rat) := by
      apply Rat.intCast_le_intCast.mpr
      rcases Nat.eq_zero_or_pos i with c | c
      · subst c; exact Int.le_refl _
      · exact pw m (m + i) (by omega) (by omega) (by omega)
    exact hp_neg (by grind)
  have e : rsum (low.map fun (g : Int) => hp (lev low p m - (g : Rat))) = rsum ((low.take m).map fun (g : Int) => hp (lev low p m - (g : Rat))) + rsum ((low.drop m).map fun (g : Int) => hp (lev low p m - (g : Rat))) := by
    rw [← rsum_app, ← List.map_append, List.take_append_drop]
  have e1 : rsum ((low.take m).map fun (g : Int) => hp (lev low p m - (g : Rat))) = (m : Rat) * lev low p m - ((((low.take m).sum : Int)) : Rat) := by
    rw [List.map_congr_left f1, rsum_map_sub (fun _ => lev low p m) (fun (g : Int) => (g : Rat)), rsum_map_const, List.length_take, Nat.min_eq_left a2]
    congr 1
    exact rsum_cast _
  have e2 : rsum ((low.drop m).map fun (g : Int) => hp (lev low p m - (g : Rat))) = 0 := by
    rw [List.map_congr_left f2, rsum_map_const]; grind
  have m1 := lev_mul low p a1
  rw [Rat.intCast_add] at m1
  rw [e, e1, e2]
  grind
end Mj

end Part_Fl

section Part_G_k77
set_option maxRecDepth 100000
/-! printed by gen.py -/
namespace Lx
open Lv PySem
def b0 : CSs := (.cons (.ret (.andv (.cons (.isi (.loc 0) [.int] true) (.cons (.notv (.isi (.loc 0) [.bool] true)) .nil)))) .nil)
def f0 : FDef := ⟨"is_whole", ["value"], ["value"], b0⟩
def b1 : CSs := (.cons (.ret (.andv (.cons (.call 0 (.cons (.loc 0) .nil)) (.cons (.cmp2 .le .le (.loc 1) (.loc 0) (.loc 2)) .nil)))) .nil)
def f1 : FDef := ⟨"is_between", ["value", "low", "high"], ["value", "low", "high"], b1⟩
def b2 : CSs := (.cons (.ret (.andv (.cons (.isi (.loc 0) [.tuple] true) (.cons (.cmp .eq (.v (.bi .len (.cons (.v (.loc 0)) .nil))) (.v (.loc 1))) .nil)))) .nil)
def f2 : FDef := ⟨"is_tuple_of", ["value", "many"], ["value", "many"], b2⟩
def b3 : CSs := (.cons (.ifs (.orv (.cons (.notv (.isi (.loc 0) [.tuple] true)) (.cons (.notv (.cmp2 .le .le (.loc 1) (.bi .len (.cons (.v (.loc 0)) .nil)) (.loc 2))) .nil))) (.cons (.ret (.fr (.disp (.cons (.cst .non) .nil)))) .nil) .nil) (.cons (.ret (.fr (.sl (.v (.fr (.lc (.loc 4) [4, 5] (.tp (.cons (.nm 4) (.cons (.nm 5) .nil))) (.enm (.loc 0) none) (.cons (.notv (.callL 3 (.cons (.loc 5) .nil))) .nil)))) .no (.so (.cst (.int 1)))))) .nil))
def f3 : FDef := ⟨"first_wrong", ["value", "fewest", "most", "is_right"], ["value", "fewest", "most", "is_right", "index", "each"], b3⟩
def b4 : CSs := (.cons (.asg (.nm 2) (.bin .mul (.bi .gcd (.cons (.v (.loc 0)) (.cons (.v (.loc 1)) .nil))) (.ite (.cmp .gt (.v (.loc 1)) (.v (.cst (.int 0)))) (.cst (.int 1)) (.neg (.cst (.int 1)))))) (.cons (.ret (.tup (.cons (.bin .fdiv (.loc 0) (.loc 2)) (.cons (.bin .fdiv (.loc 1) (.loc 2)) .nil)))) .nil))
def f4 : FDef := ⟨"fraction", ["number", "under"], ["number", "under", "part"], b4⟩
def b5 : CSs := (.cons (.ifs (.orv (.cons (.notv (.call 2 (.cons (.loc 0) (.cons (.cst (.int 2)) .nil)))) (.cons (.notv (.call 0 (.cons (.idx (.v (.loc 0)) (.cst (.int 0))) .nil))) (.cons (.notv (.call 0 (.cons (.idx (.v (.loc 0)) (.cst (.int 1))) .nil))) (.cons (.cmp .le (.v (.idx (.v (.loc 0)) (.cst (.int 1)))) (.v (.cst (.int 0)))) .nil))))) (.cons (.ret (.cst (.bl false))) .nil) .nil) (.cons (.ret (.cmp .eq (.v (.bi .gcd (.cons (.v (.idx (.v (.loc 0)) (.cst (.int 0)))) (.cons (.v (.idx (.v (.loc 0)) (.cst (.int 1)))) .nil)))) (.v (.cst (.int 1))))) .nil))
def f5 : FDef := ⟨"is_fraction_by", ["value"], ["value"], b5⟩
def b6 : CSs := (.cons (.ret (.tup (.cons (.loc 0) (.cons (.cst (.int 1)) .nil)))) .nil)
def f6 : FDef := ⟨"whole", ["number"], ["number"], b6⟩
def b7 : CSs := (.cons (.ret (.call 4 (.cons (.bin .add (.bin .mul (.idx (.v (.loc 0)) (.cst (.int 0))) (.idx (.v (.loc 1)) (.cst (.int 1)))) (.bin .mul (.idx (.v (.loc 1)) (.cst (.int 0))) (.idx (.v (.loc 0)) (.cst (.int 1))))) (.cons (.bin .mul (.idx (.v (.loc 0)) (.cst (.int 1))) (.idx (.v (.loc 1)) (.cst (.int 1)))) .nil)))) .nil)
def f7 : FDef := ⟨"sum_of", ["one", "two"], ["one", "two"], b7⟩
def b8 : CSs := (.cons (.ret (.call 4 (.cons (.bin .mul (.idx (.v (.loc 0)) (.cst (.int 0))) (.idx (.v (.loc 1)) (.cst (.int 0)))) (.cons (.bin .mul (.idx (.v (.loc 0)) (.cst (.int 1))) (.idx (.v (.loc 1)) (.cst (.int 1)))) .nil)))) .nil)
def f8 : FDef := ⟨"times", ["one", "two"], ["one", "two"], b8⟩
def b9 : CSs := (.cons (.ret (.cmp .lt (.v (.bin .mul (.idx (.v (.loc 0)) (.cst (.int 0))) (.idx (.v (.loc 1)) (.cst (.int 1))))) (.v (.bin .mul (.idx (.v (.loc 1)) (.cst (.int 0))) (.idx (.v (.loc 0)) (.cst (.int 1))))))) .nil)
def f9 : FDef := ⟨"is_less", ["one", "two"], ["one", "two"], b9⟩
def b10 : CSs := (.cons (.ret (.ite (.call 9 (.cons (.loc 0) (.cons (.loc 1) .nil))) (.loc 1) (.loc 0))) .nil)
def f10 : FDef := ⟨"greater_of", ["one", "two"], ["one", "two"], b10⟩
def b11 : CSs := (.cons (.ret (.ite (.call 9 (.cons (.loc 1) (.cons (.loc 0) .nil))) (.loc 1) (.loc 0))) .nil)
def f11 : FDef := ⟨"lesser_of", ["one", "two"], ["one", "two"], b11⟩
def b12 : CSs := (.cons (.asg (.nm 1) (.idx (.v (.loc 0)) (.cst (.int 0)))) (.cons (.for_ (.nm 2) (.seq (.v (.slT (.v (.loc 0)) (.so (.cst (.int 1))) .no))) (.cons (.asg (.nm 1) (.call 10 (.cons (.loc 1) (.cons (.loc 2) .nil)))) .nil)) (.cons (.ret (.loc 1)) .nil)))
def f12 : FDef := ⟨"greatest_of", ["some"], ["some", "found", "each"], b12⟩
def b13 : CSs := (.cons (.asg (.nm 1) (.idx (.v (.loc 0)) (.cst (.int 0)))) (.cons (.for_ (.nm 2) (.seq (.v (.slT (.v (.loc 0)) (.so (.cst (.int 1))) .no))) (.cons (.asg (.nm 1) (.call 11 (.cons (.loc 1) (.cons (.loc 2) .nil)))) .nil)) (.cons (.ret (.loc 1)) .nil)))
def f13 : FDef := ⟨"least_of", ["some"], ["some", "found", "each"], b13⟩
def b14 : CSs := (.cons (.ifs (.orv (.cons (.notv (.call 2 (.cons (.loc 0) (.cons (.cst (.int 2)) .nil)))) (.cons (.notv (.call 1 (.cons (.idx (.v (.loc 0)) (.glb 0)) (.cons (.neg (.glb 1)) (.cons (.glb 1) .nil))))) .nil))) (.cons (.ret (.cst (.bl false))) .nil) .nil) (.cons (.ret (.call 1 (.cons (.idx (.v (.loc 0)) (.glb 2)) (.cons (.idx (.v (.loc 0)) (.glb 0)) (.cons (.glb 1) .nil))))) .nil))
def f14 : FDef := ⟨"is_pair_by", ["value"], ["value"], b14⟩
def b15 : CSs := (.cons (.ifs (.cmp .ne (.v (.call 3 (.cons (.loc 0) (.cons (.glb 3) (.cons (.glb 4) (.cons (.fnv 14) .nil)))))) (.v (.fr (.disp .nil)))) (.cons (.ret (.cst (.bl false))) .nil) .nil) (.cons (.ret (.andv (.cons (.cmp .eq (.v (.idx (.v (.idx (.v (.loc 0)) (.cst (.int 0)))) (.glb 0))) (.v (.idx (.v (.idx (.v (.loc 0)) (.cst (.int 0)))) (.glb 2)))) (.cons (.cmp .eq (.v (.idx (.v (.idx (.v (.loc 0)) (.neg (.cst (.int 1))))) (.glb 0))) (.v (.idx (.v (.idx (.v (.loc 0)) (.neg (.cst (.int 1))))) (.glb 2)))) .nil)))) .nil))
def f15 : FDef := ⟨"are_bounds_by", ["value"], ["value"], b15⟩
def b16 : CSs := (.cons (.ret (.call 3 (.cons (.loc 1) (.cons (.bin .sub (.bi .len (.cons (.v (.loc 0)) .nil)) (.cst (.int 1))) (.cons (.bin .sub (.bi .len (.cons (.v (.loc 0)) .nil)) (.cst (.int 1))) (.cons (.fnv 14) .nil)))))) .nil)
def f16 : FDef := ⟨"wrong_in_caps", ["bounds", "value"], ["bounds", "value"], b16⟩
def b17 : CSs := (.cons (.ret (.bi .sum (.cons (.v (.fr (.lc (.idx (.v (.loc 4)) (.loc 3)) [4] (.nm 4) (.seq (.v (.slT (.v (.loc 0)) (.so (.loc 1)) (.so (.loc 2))))) .nil))) .nil))) .nil)
def f17 : FDef := ⟨"sum_between", ["caps", "at", "place", "side"], ["caps", "at", "place", "side", "pair"], b17⟩
def b18 : CSs := (.cons (.asg (.nm 3) (.fr (.lc (.bin .add (.idx (.v (.idx (.v (.loc 0)) (.loc 4))) (.glb 0)) (.call 17 (.cons (.loc 1) (.cons (.loc 4) (.cons (.loc 2) (.cons (.glb 0) .nil)))))) [4] (.nm 4) (.rng1 (.bin .add (.loc 2) (.cst (.int 1)))) .nil))) (.cons (.ret (.bi .max (.cons (.v (.fr (.cat (.v (.loc 3)) (.v (.fr (.lc (.bin .sub (.idx (.v (.idx (.v (.loc 0)) (.loc 4))) (.glb 0)) (.call 17 (.cons (.loc 1) (.cons (.loc 2) (.cons (.loc 4) (.cons (.glb 2) .nil)))))) [4] (.nm 4) (.rng2 (.loc 2) (.bi .len (.cons (.v (.loc 0)) .nil))) .nil)))))) .nil))) .nil))
def f18 : FDef := ⟨"least_at", ["bounds", "caps", "place"], ["bounds", "caps", "place", "ahead", "at"], b18⟩
def b19 : CSs := (.cons (.asg (.nm 3) (.fr (.lc (.bin .add (.idx (.v (.idx (.v (.loc 0)) (.loc 4))) (.glb 2)) (.call 17 (.cons (.loc 1) (.cons (.loc 4) (.cons (.loc 2) (.cons (.glb 2) .nil)))))) [4] (.nm 4) (.rng1 (.bin .add (.loc 2) (.cst (.int 1)))) .nil))) (.cons (.ret (.bi .min (.cons (.v (.fr (.cat (.v (.loc 3)) (.v (.fr (.lc (.bin .sub (.idx (.v (.idx (.v (.loc 0)) (.loc 4))) (.glb 2)) (.call 17 (.cons (.loc 1) (.cons (.loc 2) (.cons (.loc 4) (.cons (.glb 0) .nil)))))) [4] (.nm 4) (.rng2 (.loc 2) (.bi .len (.cons (.v (.loc 0)) .nil))) .nil)))))) .nil))) .nil))
def f19 : FDef := ⟨"greatest_at", ["bounds", "caps", "place"], ["bounds", "caps", "place", "ahead", "at"], b19⟩
def b20 : CSs := (.cons (.ret (.bi .all (.cons (.v (.fr (.lc (.cmp .le (.v (.call 18 (.cons (.loc 0) (.cons (.loc 1) (.cons (.loc 2) .nil))))) (.v (.call 19 (.cons (.loc 0) (.cons (.loc 1) (.cons (.loc 2) .nil)))))) [2] (.nm 2) (.rng1 (.bi .len (.cons (.v (.loc 0)) .nil))) .nil))) .nil))) .nil)
def f20 : FDef := ⟨"can_keep_caps_by", ["bounds", "caps"], ["bounds", "caps", "at"], b20⟩
def b21 : CSs := (.cons (.ifs (.notv (.call 20 (.cons (.loc 0) (.cons (.loc 1) .nil)))) (.cons (.ret (.cst .non)) .nil) .nil) (.cons (.ret (.bi .tuple (.cons (.v (.fr (.lc (.call 6 (.cons (.call 18 (.cons (.loc 0) (.cons (.loc 1) (.cons (.loc 2) .nil)))) .nil)) [2] (.nm 2) (.rng1 (.bi .len (.cons (.v (.loc 0)) .nil))) .nil))) .nil))) .nil))
def f21 : FDef := ⟨"caps_run_by", ["bounds", "caps"], ["bounds", "caps", "at"], b21⟩
def b22 : CSs := (.cons (.ifs (.notv (.call 20 (.cons (.loc 0) (.cons (.loc 1) .nil)))) (.cons (.ret (.cst .non)) .nil) .nil) (.cons (.ret (.tup (.cons (.call 6 (.cons (.call 18 (.cons (.loc 0) (.cons (.loc 1) (.cons (.loc 2) .nil)))) .nil)) (.cons (.call 6 (.cons (.call 19 (.cons (.loc 0) (.cons (.loc 1) (.cons (.loc 2) .nil)))) .nil)) .nil)))) .nil))
def f22 : FDef := ⟨"caps_reach_by", ["bounds", "caps", "place"], ["bounds", "caps", "place"], b22⟩
def b23 : CSs := (.cons (.ifs (.notv (.call 15 (.cons (.loc 0) .nil))) (.cons (.raise 0) .nil) .nil) .nil)
def f23 : FDef := ⟨"check_bounds", ["value"], ["value"], b23⟩
def b24 : CSs := (.cons (.ifs (.notv (.call 1 (.cons (.loc 1) (.cons (.cst (.int 0)) (.cons (.bin .sub (.bi .len (.cons (.v (.loc 0)) .nil)) (.cst (.int 1))) .nil))))) (.cons (.raise 0) .nil) .nil) .nil)
def f24 : FDef := ⟨"check_place", ["bounds", "value"], ["bounds", "value"], b24⟩
def b25 : CSs := (.cons (.ifs (.notv (.call 5 (.cons (.loc 0) .nil))) (.cons (.raise 0) .nil) .nil) .nil)
def f25 : FDef := ⟨"check_fraction", ["value"], ["value"], b25⟩
def b26 : CSs := (.cons (.expr (.call 23 (.cons (.loc 0) .nil))) (.cons (.for_ (.nm 2) (.seq (.v (.call 16 (.cons (.loc 0) (.cons (.loc 1) .nil))))) (.cons (.raise 0) .nil)) .nil))
def f26 : FDef := ⟨"check_caps", ["bounds", "caps"], ["bounds", "caps", "index"], b26⟩
def b27 : CSs := (.cons (.expr (.call 26 (.cons (.loc 0) (.cons (.loc 1) .nil)))) (.cons (.ret (.call 20 (.cons (.loc 0) (.cons (.loc 1) .nil)))) .nil))
def f27 : FDef := ⟨"can_keep_caps", ["bounds", "caps"], ["bounds", "caps"], b27⟩
def b28 : CSs := (.cons (.expr (.call 26 (.cons (.loc 0) (.cons (.loc 1) .nil)))) (.cons (.ret (.call 21 (.cons (.loc 0) (.cons (.loc 1) .nil)))) .nil))
def f28 : FDef := ⟨"caps_run", ["bounds", "caps"], ["bounds", "caps"], b28⟩
def b29 : CSs := (.cons (.expr (.call 26 (.cons (.loc 0) (.cons (.loc 1) .nil)))) (.cons (.expr (.call 24 (.cons (.loc 0) (.cons (.loc 2) .nil)))) (.cons (.ret (.call 22 (.cons (.loc 0) (.cons (.loc 1) (.cons (.loc 2) .nil))))) .nil)))
def f29 : FDef := ⟨"caps_reach", ["bounds", "caps", "place"], ["bounds", "caps", "place"], b29⟩
def b30 : CSs := (.cons (.ret (.call 9 (.cons (.call 8 (.cons (.loc 3) (.cons (.call 6 (.cons (.bin .sub (.loc 2) (.loc 1)) .nil)) .nil))) (.cons (.call 6 (.cons (.bin .sub (.idx (.v (.idx (.v (.loc 0)) (.loc 2))) (.glb 0)) (.idx (.v (.idx (.v (.loc 0)) (.loc 1))) (.glb 2))) .nil)) .nil)))) .nil)
def f30 : FDef := ⟨"is_barred_up", ["bounds", "one", "two", "most"], ["bounds", "one", "two", "most"], b30⟩
def b31 : CSs := (.cons (.ret (.call 9 (.cons (.call 6 (.cons (.bin .sub (.idx (.v (.idx (.v (.loc 0)) (.loc 2))) (.glb 2)) (.idx (.v (.idx (.v (.loc 0)) (.loc 1))) (.glb 0))) .nil)) (.cons (.call 8 (.cons (.loc 3) (.cons (.call 6 (.cons (.bin .sub (.loc 2) (.loc 1)) .nil)) .nil))) .nil)))) .nil)
def f31 : FDef := ⟨"is_barred_down", ["bounds", "one", "two", "least"], ["bounds", "one", "two", "least"], b31⟩
def b32 : CSs := (.cons (.own 3 (.disp .nil)) (.cons (.for_ (.nm 4) (.rng1 (.bi .len (.cons (.v (.loc 0)) .nil))) (.cons (.for_ (.nm 5) (.rng2 (.bin .add (.loc 4) (.cst (.int 1))) (.bi .len (.cons (.v (.loc 0)) .nil))) (.cons (.ifs (.call 30 (.cons (.loc 0) (.cons (.loc 4) (.cons (.loc 5) (.cons (.loc 2) .nil))))) (.cons (.app 3 (.tup (.cons (.loc 4) (.cons (.loc 5) (.cons (.glb 5) .nil))))) .nil) .nil) (.cons (.ifs (.call 31 (.cons (.loc 0) (.cons (.loc 4) (.cons (.loc 5) (.cons (.loc 1) .nil))))) (.cons (.app 3 (.tup (.cons (.loc 4) (.cons (.loc 5) (.cons (.glb 6) .nil))))) .nil) .nil) .nil))) .nil)) (.cons (.frz 3) (.cons (.ret (.loc 3)) .nil))))
def f32 : FDef := ⟨"barring_by", ["bounds", "least", "most"], ["bounds", "least", "most", "found", "one", "two"], b32⟩
def b33 : CSs := (.cons (.asg (.nm 5) (.bin .sub (.loc 2) (.loc 1))) (.cons (.ret (.call 7 (.cons (.call 6 (.cons (.loc 0) .nil)) (.cons (.call 8 (.cons (.ite (.cmp .ge (.v (.loc 5)) (.v (.cst (.int 0)))) (.loc 3) (.loc 4)) (.cons (.call 6 (.cons (.loc 5) .nil)) .nil))) .nil)))) .nil))
def f33 : FDef := ⟨"height_from", ["number", "here", "place", "ahead", "behind"], ["number", "here", "place", "ahead", "behind", "far"], b33⟩
def b34 : CSs := (.cons (.ifs (.cmp .ne (.v (.call 32 (.cons (.loc 0) (.cons (.loc 1) (.cons (.loc 2) .nil))))) (.v (.fr (.disp .nil)))) (.cons (.ret (.cst .non)) .nil) .nil) (.cons (.asg (.nm 4) (.fr (.lc (.call 33 (.cons (.idx (.v (.loc 7)) (.glb 0)) (.cons (.loc 6) (.cons (.loc 3) (.cons (.loc 1) (.cons (.loc 2) .nil)))))) [6, 7] (.tp (.cons (.nm 6) (.cons (.nm 7) .nil))) (.enm (.loc 0) none) .nil))) (.cons (.asg (.nm 5) (.fr (.lc (.call 33 (.cons (.idx (.v (.loc 7)) (.glb 2)) (.cons (.loc 6) (.cons (.loc 3) (.cons (.loc 2) (.cons (.loc 1) .nil)))))) [6, 7] (.tp (.cons (.nm 6) (.cons (.nm 7) .nil))) (.enm (.loc 0) none) .nil))) (.cons (.ret (.tup (.cons (.call 12 (.cons (.loc 4) .nil)) (.cons (.call 13 (.cons (.loc 5) .nil)) .nil)))) .nil))))
def f34 : FDef := ⟨"reach_by", ["bounds", "least", "most", "place"], ["bounds", "least", "most", "place", "lows", "highs", "at", "pair"], b34⟩
def b35 : CSs := (.cons (.expr (.call 23 (.cons (.loc 0) .nil))) (.cons (.expr (.call 25 (.cons (.loc 1) .nil))) (.cons (.expr (.call 25 (.cons (.loc 2) .nil))) .nil)))
def f35 : FDef := ⟨"check_span", ["bounds", "fraction", "second"], ["bounds", "fraction", "second"], b35⟩
def b36 : CSs := (.cons (.expr (.call 35 (.cons (.loc 0) (.cons (.loc 1) (.cons (.loc 2) .nil))))) (.cons (.expr (.call 24 (.cons (.loc 0) (.cons (.loc 3) .nil)))) (.cons (.ret (.call 34 (.cons (.loc 0) (.cons (.loc 1) (.cons (.loc 2) (.cons (.loc 3) .nil)))))) .nil)))
def f36 : FDef := ⟨"reach", ["bounds", "fraction", "second", "place"], ["bounds", "fraction", "second", "place"], b36⟩
def b37 : CSs := (.cons (.asg (.nm 2) (.ite (.cmp .lt (.v (.loc 1)) (.v (.bi .len (.cons (.v (.loc 0)) .nil)))) (.bi .int (.cons (.v (.idx (.v (.loc 0)) (.loc 1))) .nil)) (.cst (.int 0)))) (.cons (.asg (.nm 3) (.bin .add (.cst (.int 52027)) (.bin .mul (.cst (.int 6971)) (.loc 1)))) (.cons (.for_ (.nm 4) (.seq (.v (.fr (.cat (.v (.fr (.sl (.v (.loc 0)) .no (.so (.cst (.int 8)))))) (.v (.fr (.disp (.cons (.loc 2) .nil)))))))) (.cons (.asg (.nm 3) (.bin .mod (.bi .int (.cons (.v (.bin .add (.bin .add (.bin .mul (.loc 3) (.cst (.int 44497))) (.bin .mod (.bi .int (.cons (.v (.loc 4)) .nil)) (.cst (.int 2147483587)))) (.cst (.int 29)))) .nil)) (.cst (.int 2147483563)))) .nil)) (.cons (.ret (.newc (.cons (.ite (.orv (.cons (.cmp .lt (.v (.loc 2)) (.v (.cst (.int 0)))) (.cons (.cmp .ge (.v (.loc 2)) (.v (.bin .pow (.cst (.int 10)) (.cst (.int 18))))) .nil))) (.bi .abs (.cons (.v (.loc 2)) .nil)) (.cst (.int 0))) (.cons (.loc 3) (.cons (.cst (.int 0)) .nil))))) .nil))))
def f37 : FDef := ⟨"_law_well", ["script", "lap"], ["script", "lap", "own", "stir", "each"], b37⟩
def b38 : CSs := (.cons (.ifs (.cmp .gt (.v (.idx (.v (.loc 0)) (.cst (.int 0)))) (.v (.cst (.int 0)))) (.cons (.asg (.tp (.cons (.ix 0 (.cst (.int 0))) (.cons (.nm 2) .nil))) (.bi .divmod (.cons (.v (.idx (.v (.loc 0)) (.cst (.int 0)))) (.cons (.v (.loc 1)) .nil)))) (.cons (.ret (.loc 2)) .nil)) .nil) (.cons (.asg (.ix 0 (.cst (.int 2))) (.bin .add (.idx (.v (.loc 0)) (.cst (.int 2))) (.cst (.int 1)))) (.cons (.asg (.ix 0 (.cst (.int 1))) (.bin .mod (.bi .int (.cons (.v (.bin .add (.bin .add (.bin .mul (.idx (.v (.loc 0)) (.cst (.int 1))) (.cst (.int 39373))) (.bin .mul (.idx (.v (.loc 0)) (.cst (.int 2))) (.cst (.int 30323)))) (.cst (.int 11)))) .nil)) (.cst (.int 2147483543)))) (.cons (.ret (.bin .mod (.bi .int (.cons (.v (.bin .fdiv (.idx (.v (.loc 0)) (.cst (.int 1))) (.cst (.int 128)))) .nil)) (.loc 1))) .nil))))
def f38 : FDef := ⟨"_law_take", ["well", "many"], ["well", "many", "digit"], b38⟩
def b39 : CSs := (.cons (.ret (.idx (.v (.loc 1)) (.call 38 (.cons (.loc 0) (.cons (.bi .len (.cons (.v (.loc 1)) .nil)) .nil))))) .nil)
def f39 : FDef := ⟨"_law_of", ["well", "things"], ["well", "things"], b39⟩
def b40 : CSs := (.cons (.ifs (.orv (.cons (.andv (.cons (.isi (.loc 1) [.tuple] true) (.cons (.notv (.isi (.loc 0) [.tuple] true)) .nil))) (.cons (.andv (.cons (.isi (.loc 1) [.list] true) (.cons (.notv (.isi (.loc 0) [.list] true)) .nil))) .nil))) (.cons (.ret (.cst (.bl false))) .nil) .nil) (.cons (.ifs (.isi (.loc 1) [.tuple, .list] false) (.cons (.ret (.andv (.cons (.cmp .eq (.v (.bi .len (.cons (.v (.loc 0)) .nil))) (.v (.bi .len (.cons (.v (.loc 1)) .nil)))) (.cons (.bi .all (.cons (.v (.fr (.lc (.call 40 (.cons (.idx (.v (.loc 0)) (.loc 2)) (.cons (.idx (.v (.loc 1)) (.loc 2)) .nil))) [2] (.nm 2) (.rng1 (.bi .len (.cons (.v (.loc 1)) .nil))) .nil))) .nil)) .nil)))) .nil) .nil) (.cons (.ifs (.orv (.cons (.cmp .is_ (.v (.loc 1)) (.v (.cst .non))) (.cons (.cmp .is_ (.v (.loc 0)) (.v (.cst .non))) .nil))) (.cons (.ret (.andv (.cons (.cmp .is_ (.v (.loc 1)) (.v (.cst .non))) (.cons (.cmp .is_ (.v (.loc 0)) (.v (.cst .non))) .nil)))) .nil) .nil) (.cons (.ifs (.orv (.cons (.isi (.loc 1) [.bool] true) (.cons (.isi (.loc 0) [.bool] true) .nil))) (.cons (.ret (.andv (.cons (.isi (.loc 1) [.bool] true) (.cons (.isi (.loc 0) [.bool] true) (.cons (.cmp .eq (.v (.loc 1)) (.v (.loc 0))) .nil))))) .nil) .nil) (.cons (.ifs (.isi (.loc 1) [.int] true) (.cons (.ret (.andv (.cons (.isi (.loc 0) [.int] true) (.cons (.cmp .eq (.v (.loc 0)) (.v (.loc 1))) .nil)))) .nil) .nil) (.cons (.ifs (.isi (.loc 1) [.str] true) (.cons (.ret (.andv (.cons (.isi (.loc 0) [.str] true) (.cons (.cmp .eq (.v (.loc 0)) (.v (.loc 1))) .nil)))) .nil) .nil) (.cons (.ret (.andv (.cons (.isi (.loc 1) [.dict] true) (.cons (.isi (.loc 0) [.dict] true) (.cons (.cmp .eq (.v (.bi .len (.cons (.v (.loc 0)) .nil))) (.v (.bi .len (.cons (.v (.loc 1)) .nil)))) (.cons (.cmp .eq (.v (.loc 0)) (.v (.loc 1))) .nil)))))) .nil)))))))
def f40 : FDef := ⟨"_law_same", ["told", "due"], ["told", "due", "at"], b40⟩
def b41 : CSs := (.cons (.ret (.cmp .lt (.v (.bin .mul (.idx (.v (.loc 0)) (.cst (.int 0))) (.idx (.v (.loc 1)) (.cst (.int 1))))) (.v (.bin .mul (.idx (.v (.loc 1)) (.cst (.int 0))) (.idx (.v (.loc 0)) (.cst (.int 1))))))) .nil)
def f41 : FDef := ⟨"_law_is_below", ["one", "two"], ["one", "two"], b41⟩
def b42 : CSs := (.cons (.par (.val (.nm 4) (.call 39 (.cons (.loc 0) (.cons (.tup (.cons (.cst (.int 2)) (.cons (.cst (.int 6)) (.cons (.cst (.int 40)) (.cons (.cst (.int 9999)) .nil))))) .nil))) (.own 5 (.disp .nil) .nil))) (.cons (.asg (.nm 2) (.bin .add (.cst (.int 2)) (.call 38 (.cons (.loc 0) (.cons (.bin .sub (.loc 1) (.cst (.int 1))) .nil))))) (.cons (.for_ (.nm 3) (.rng1 (.loc 2)) (.cons (.asg (.nm 6) (.bin .sub (.call 38 (.cons (.loc 0) (.cons (.bin .add (.bin .mul (.cst (.int 2)) (.loc 4)) (.cst (.int 1))) .nil))) (.loc 4))) (.cons (.asg (.nm 7) (.ite (.cmp .in_ (.v (.loc 3)) (.v (.tup (.cons (.cst (.int 0)) (.cons (.bin .sub (.loc 2) (.cst (.int 1))) .nil))))) (.cst (.int 0)) (.call 38 (.cons (.loc 0) (.cons (.bin .add (.loc 4) (.cst (.int 1))) .nil))))) (.cons (.app 5 (.tup (.cons (.loc 6) (.cons (.bi .min2 (.cons (.v (.cst (.int 9999))) (.cons (.v (.bin .add (.loc 6) (.loc 7))) .nil))) .nil)))) .nil)))) (.cons (.ret (.bi .tuple (.cons (.bor 5) .nil))) .nil))))
def f42 : FDef := ⟨"_law_bounds", ["well", "most"], ["well", "most", "many", "place", "great", "found", "low", "wide"], b42⟩
def b43 : CSs := (.cons (.par (.val (.nm 3) (.idx (.v (.idx (.v (.loc 1)) (.cst (.int 0)))) (.cst (.int 0))) (.own 4 (.disp .nil) .nil))) (.cons (.for_ (.nm 2) (.rng2 (.cst (.int 1)) (.bi .len (.cons (.v (.loc 1)) .nil))) (.cons (.asg (.tp (.cons (.nm 7) (.cons (.nm 8) .nil))) (.idx (.v (.loc 1)) (.loc 2))) (.cons (.asg (.nm 5) (.bin .add (.loc 7) (.call 38 (.cons (.loc 0) (.cons (.bin .add (.bin .sub (.loc 8) (.loc 7)) (.cst (.int 1))) .nil))))) (.cons (.par (.val (.nm 9) (.bin .sub (.loc 5) (.loc 3)) (.val (.nm 10) (.call 39 (.cons (.loc 0) (.cons (.tup (.cons (.cst (.int 0)) (.cons (.cst (.int 1)) (.cons (.cst (.int 3)) (.cons (.cst (.int 50)) .nil))))) .nil))) .nil))) (.cons (.asg (.nm 6) (.ite (.cmp .gt (.v (.call 38 (.cons (.loc 0) (.cons (.cst (.int 8)) .nil)))) (.v (.cst (.int 0)))) (.bin .sub (.loc 9) (.call 38 (.cons (.loc 0) (.cons (.bin .add (.loc 10) (.cst (.int 1))) .nil)))) (.bin .add (.loc 9) (.cst (.int 1))))) (.cons (.app 4 (.tup (.cons (.bi .max2 (.cons (.v (.bin .sub (.cst (.int 0)) (.cst (.int 9999)))) (.cons (.v (.bi .min2 (.cons (.v (.cst (.int 9999))) (.cons (.v (.loc 6)) .nil)))) .nil))) (.cons (.bi .max2 (.cons (.v (.bin .sub (.cst (.int 0)) (.cst (.int 9999)))) (.cons (.v (.bi .min2 (.cons (.v (.cst (.int 9999))) (.cons (.v (.bi .max2 (.cons (.v (.loc 6)) (.cons (.v (.bin .add (.loc 9) (.call 38 (.cons (.loc 0) (.cons (.bin .add (.loc 10) (.cst (.int 1))) .nil))))) .nil)))) .nil)))) .nil))) .nil)))) (.cons (.asg (.nm 3) (.loc 5)) .nil))))))) (.cons (.ret (.bi .tuple (.cons (.bor 4) .nil))) .nil)))
def f43 : FDef := ⟨"_law_caps", ["well", "bounds"], ["well", "bounds", "place", "here", "found", "there", "begin", "low", "high", "step", "wide"], b43⟩
def b44 : CSs := (.cons (.own 2 (.disp (.cons (.idx (.v (.loc 0)) (.cst (.int 0))) .nil))) (.cons (.for_ (.nm 3) (.rng2 (.cst (.int 1)) (.bi .len (.cons (.v (.loc 0)) .nil))) (.cons (.par (.val (.nm 4) (.bi .max2 (.cons (.v (.idx (.v (.idx (.v (.loc 0)) (.loc 3))) (.cst (.int 0)))) (.cons (.v (.bin .add (.idx (.v (.idx (.bor 2) (.neg (.cst (.int 1))))) (.cst (.int 0))) (.idx (.v (.idx (.v (.loc 1)) (.bin .sub (.loc 3) (.cst (.int 1))))) (.cst (.int 0))))) .nil))) (.val (.nm 5) (.bi .min2 (.cons (.v (.idx (.v (.idx (.v (.loc 0)) (.loc 3))) (.cst (.int 1)))) (.cons (.v (.bin .add (.idx (.v (.idx (.bor 2) (.neg (.cst (.int 1))))) (.cst (.int 1))) (.idx (.v (.idx (.v (.loc 1)) (.bin .sub (.loc 3) (.cst (.int 1))))) (.cst (.int 1))))) .nil))) .nil))) (.cons (.ifs (.cmp .gt (.v (.loc 4)) (.v (.loc 5))) (.cons (.ret (.cst .non)) .nil) .nil) (.cons (.app 2 (.tup (.cons (.loc 4) (.cons (.loc 5) .nil)))) .nil)))) (.cons (.for_ (.nm 3) (.seq (.v (.fr (.rev (.v (.fr (.lstR (.rng1 (.bin .sub (.bi .len (.cons (.v (.loc 0)) .nil)) (.cst (.int 1))))))))))) (.cons (.asg (.ix 2 (.loc 3)) (.tup (.cons (.bi .max2 (.cons (.v (.idx (.v (.idx (.bor 2) (.loc 3))) (.cst (.int 0)))) (.cons (.v (.bin .sub (.idx (.v (.idx (.bor 2) (.bin .add (.loc 3) (.cst (.int 1))))) (.cst (.int 0))) (.idx (.v (.idx (.v (.loc 1)) (.loc 3))) (.cst (.int 1))))) .nil))) (.cons (.bi .min2 (.cons (.v (.idx (.v (.idx (.bor 2) (.loc 3))) (.cst (.int 1)))) (.cons (.v (.bin .sub (.idx (.v (.idx (.bor 2) (.bin .add (.loc 3) (.cst (.int 1))))) (.cst (.int 1))) (.idx (.v (.idx (.v (.loc 1)) (.loc 3))) (.cst (.int 0))))) .nil))) .nil)))) .nil)) (.cons (.frz 2) (.cons (.ret (.loc 2)) .nil)))))
def f44 : FDef := ⟨"_law_reaches", ["bounds", "caps"], ["bounds", "caps", "rows", "k", "low", "high"], b44⟩
def b45 : CSs := (.cons (.asg (.nm 2) (.fr (.disp (.cons (.tup (.cons (.idx (.v (.idx (.v (.loc 0)) (.cst (.int 0)))) (.cst (.int 0))) .nil)) .nil)))) (.cons (.for_ (.nm 3) (.rng2 (.cst (.int 1)) (.bi .len (.cons (.v (.loc 0)) .nil))) (.cons (.asg (.nm 4) (.fr (.disp .nil))) (.cons (.for_ (.nm 5) (.seq (.v (.loc 2))) (.cons (.asg (.nm 4) (.fr (.cat (.v (.loc 4)) (.v (.fr (.lc (.bin .add (.loc 5) (.tup (.cons (.loc 6) .nil))) [6] (.nm 6) (.rng2 (.idx (.v (.idx (.v (.loc 0)) (.loc 3))) (.cst (.int 0))) (.bin .add (.idx (.v (.idx (.v (.loc 0)) (.loc 3))) (.cst (.int 1))) (.cst (.int 1)))) (.cons (.cmp2 .le .le (.idx (.v (.idx (.v (.loc 1)) (.bin .sub (.loc 3) (.cst (.int 1))))) (.cst (.int 0))) (.bin .sub (.loc 6) (.idx (.v (.loc 5)) (.neg (.cst (.int 1))))) (.idx (.v (.idx (.v (.loc 1)) (.bin .sub (.loc 3) (.cst (.int 1))))) (.cst (.int 1)))) .nil))))))) .nil)) (.cons (.asg (.nm 2) (.loc 4)) (.cons (.ifs (.cmp .gt (.v (.bi .len (.cons (.v (.loc 2)) .nil))) (.v (.cst (.int 300)))) (.cons (.ret (.cst .non)) .nil) .nil) .nil))))) (.cons (.ret (.loc 2)) .nil)))
def f45 : FDef := ⟨"_law_runs", ["bounds", "caps"], ["bounds", "caps", "rows", "k", "more", "row", "height"], b45⟩
def b46 : CSs := (.cons (.par (.val (.nm 9) (.call 44 (.cons (.loc 1) (.cons (.loc 2) .nil))) (.val (.nm 10) (.bi .len (.cons (.v (.loc 1)) .nil)) .nil))) (.cons (.own 3 (.disp .nil)) (.cons (.for_ (.nm 4) (.rng1 (.loc 10)) (.cons (.app 3 (.ite (.cmp .eq (.v (.call 38 (.cons (.loc 0) (.cons (.cst (.int 2)) .nil)))) (.v (.cst (.int 0)))) (.call 29 (.cons (.loc 1) (.cons (.loc 2) (.cons (.loc 4) .nil)))) (.callK 29 0 .nil (.cons (.loc 4) (.cons (.loc 2) (.cons (.loc 1) .nil)))))) .nil)) (.cons (.frz 3) (.cons (.ifs (.notv (.call 40 (.cons (.loc 3) (.cons (.ite (.cmp .isnot (.v (.loc 9)) (.v (.cst .non))) (.fr (.lc (.tup (.cons (.tup (.cons (.idx (.v (.loc 17)) (.cst (.int 0))) (.cons (.cst (.int 1)) .nil))) (.cons (.tup (.cons (.idx (.v (.loc 17)) (.cst (.int 1))) (.cons (.cst (.int 1)) .nil))) .nil))) [17] (.nm 17) (.seq (.v (.loc 9))) .nil)) (.fr (.rep (.v (.fr (.disp (.cons (.cst .non) .nil)))) (.loc 10)))) .nil)))) (.cons (.ret (.cst (.bl false))) .nil) .nil) (.cons (.ifs (.cmp .is_ (.v (.loc 9)) (.v (.cst .non))) (.cons (.ret (.cmp .is_ (.v (.call 27 (.cons (.loc 1) (.cons (.loc 2) .nil)))) (.v (.cst (.bl false))))) .nil) .nil) (.cons (.ifs (.cmp .lt (.v (.bi .max (.cons (.v (.fr (.lc (.bin .sub (.loc 13) (.loc 12)) [12, 13] (.tp (.cons (.nm 12) (.cons (.nm 13) .nil))) (.seq (.v (.loc 1))) .nil))) .nil))) (.v (.cst (.int 7)))) (.cons (.asg (.nm 11) (.call 45 (.cons (.loc 1) (.cons (.loc 2) .nil)))) (.cons (.for_ (.nm 4) (.rng1 (.ite (.cmp .isnot (.v (.loc 11)) (.v (.cst .non))) (.loc 10) (.cst (.int 0)))) (.cons (.asg (.nm 14) (.fr (.lc (.idx (.v (.loc 16)) (.loc 4)) [16] (.nm 16) (.seq (.v (.loc 11))) .nil))) (.cons (.ifs (.cmp .ne (.v (.tup (.cons (.bi .min (.cons (.v (.loc 14)) .nil)) (.cons (.bi .max (.cons (.v (.loc 14)) .nil)) .nil)))) (.v (.idx (.v (.loc 9)) (.loc 4)))) (.cons (.ret (.cst (.bl false))) .nil) .nil) .nil))) .nil)) .nil) (.cons (.ifs (.orv (.cons (.cmp .ne (.v (.bi .tuple (.cons (.v (.fr (.lc (.idx (.v (.loc 15)) (.cst (.int 0))) [15] (.nm 15) (.seq (.v (.loc 3))) .nil))) .nil))) (.v (.call 28 (.cons (.loc 1) (.cons (.loc 2) .nil))))) (.cons (.cmp .ne (.v (.idx (.v (.idx (.v (.loc 3)) (.cst (.int 0)))) (.cst (.int 0)))) (.v (.idx (.v (.idx (.v (.loc 3)) (.cst (.int 0)))) (.cst (.int 1))))) (.cons (.cmp .ne (.v (.idx (.v (.loc 3)) (.neg (.cst (.int 1))))) (.v (.bin .mul (.tup (.cons (.tup (.cons (.idx (.v (.idx (.v (.loc 1)) (.neg (.cst (.int 1))))) (.cst (.int 0))) (.cons (.cst (.int 1)) .nil))) .nil)) (.cst (.int 2))))) .nil)))) (.cons (.ret (.cst (.bl false))) .nil) .nil) (.cons (.asg (.nm 5) (.bi .tuple (.cons (.v (.fr (.lc (.tup (.cons (.bi .max2 (.cons (.v (.bin .sub (.cst (.int 0)) (.cst (.int 9999)))) (.cons (.v (.bin .sub (.idx (.v (.loc 15)) (.cst (.int 0))) (.cst (.int 1)))) .nil))) (.cons (.bi .min2 (.cons (.v (.cst (.int 9999))) (.cons (.v (.bin .add (.idx (.v (.loc 15)) (.cst (.int 1))) (.cst (.int 2)))) .nil))) .nil))) [15] (.nm 15) (.seq (.v (.loc 2))) .nil))) .nil))) (.cons (.asg (.nm 6) (.call 38 (.cons (.loc 0) (.cons (.loc 10) .nil)))) (.cons (.asg (.nm 7) (.call 29 (.cons (.loc 1) (.cons (.loc 5) (.cons (.loc 6) .nil))))) (.cons (.ifs (.orv (.cons (.call 41 (.cons (.idx (.v (.idx (.v (.loc 3)) (.loc 6))) (.cst (.int 0))) (.cons (.idx (.v (.loc 7)) (.cst (.int 0))) .nil))) (.cons (.call 41 (.cons (.idx (.v (.loc 7)) (.cst (.int 1))) (.cons (.idx (.v (.idx (.v (.loc 3)) (.loc 6))) (.cst (.int 1))) .nil))) .nil))) (.cons (.ret (.cst (.bl false))) .nil) .nil) (.cons (.par (.val (.nm 12) (.bi .min (.cons (.v (.fr (.lc (.idx (.v (.loc 15)) (.cst (.int 0))) [15] (.nm 15) (.seq (.v (.loc 2))) .nil))) .nil)) (.val (.nm 13) (.bi .max (.cons (.v (.fr (.lc (.idx (.v (.loc 15)) (.cst (.int 1))) [15] (.nm 15) (.seq (.v (.loc 2))) .nil))) .nil)) .nil))) (.cons (.asg (.nm 8) (.call 29 (.cons (.loc 1) (.cons (.bin .mul (.tup (.cons (.tup (.cons (.loc 12) (.cons (.loc 13) .nil))) .nil)) (.bin .sub (.loc 10) (.cst (.int 1)))) (.cons (.loc 6) .nil))))) (.cons (.ret (.call 40 (.cons (.call 36 (.cons (.loc 1) (.cons (.tup (.cons (.loc 12) (.cons (.cst (.int 1)) .nil))) (.cons (.tup (.cons (.loc 13) (.cons (.cst (.int 1)) .nil))) (.cons (.loc 6) .nil))))) (.cons (.loc 8) .nil)))) .nil)))))))))))))))
def f46 : FDef := ⟨"_law_is_told", ["well", "bounds", "caps"], ["well", "bounds", "caps", "told", "place", "wide", "at", "more", "like", "rows", "many", "runs", "low", "high", "heights", "pair", "run", "row"], b46⟩
def b47 : CSs := (.cons (.for_ (.nm 1) (.rng1 (.cst (.int 16))) (.cons (.asg (.nm 3) (.call 42 (.cons (.loc 0) (.cons (.ite (.cmp .lt (.v (.loc 1)) (.v (.cst (.int 8)))) (.cst (.int 9)) (.cst (.int 5))) .nil)))) (.cons (.ifs (.cmp .gt (.v (.loc 1)) (.v (.cst (.int 7)))) (.cons (.asg (.nm 3) (.bi .tuple (.cons (.v (.fr (.lc (.tup (.cons (.bin .mod (.bi .int (.cons (.v (.loc 4)) .nil)) (.cst (.int 5))) (.cons (.bin .add (.bin .mod (.bi .int (.cons (.v (.loc 4)) .nil)) (.cst (.int 5))) (.bi .min2 (.cons (.v (.cst (.int 5))) (.cons (.v (.bin .sub (.loc 5) (.loc 4))) .nil)))) .nil))) [4, 5] (.tp (.cons (.nm 4) (.cons (.nm 5) .nil))) (.seq (.v (.loc 3))) .nil))) .nil))) .nil) .nil) (.cons (.ifs (.notv (.call 46 (.cons (.loc 0) (.cons (.loc 3) (.cons (.call 43 (.cons (.loc 0) (.cons (.loc 3) .nil))) .nil))))) (.cons (.ret (.cst (.bl false))) .nil) .nil) .nil)))) (.cons (.asg (.nm 2) (.tup (.cons (.tup (.cons (.cst (.int 0)) (.cons (.cst (.int 0)) .nil))) (.cons (.tup (.cons (.cst (.int 0)) (.cons (.cst (.int 2)) .nil))) (.cons (.tup (.cons (.cst (.int 0)) (.cons (.cst (.int 2)) .nil))) (.cons (.tup (.cons (.cst (.int 3)) (.cons (.cst (.int 3)) .nil))) .nil)))))) (.cons (.ret (.call 40 (.cons (.call 29 (.cons (.loc 2) (.cons (.bin .mul (.tup (.cons (.tup (.cons (.cst (.int 0)) (.cons (.cst (.int 2)) .nil))) .nil)) (.cst (.int 3))) (.cons (.cst (.int 1)) .nil)))) (.cons (.tup (.cons (.tup (.cons (.cst (.int 0)) (.cons (.cst (.int 1)) .nil))) (.cons (.tup (.cons (.cst (.int 2)) (.cons (.cst (.int 1)) .nil))) .nil))) .nil)))) .nil)))
def f47 : FDef := ⟨"_law_right", ["well"], ["well", "turn", "tube", "bounds", "low", "high"], b47⟩
def b48 : CSs := (.cons (.ret (.bi .all (.cons (.v (.fr (.lc (.call 47 (.cons (.call 37 (.cons (.loc 0) (.cons (.loc 1) .nil))) .nil)) [1] (.nm 1) (.rng1 (.bi .max2 (.cons (.v (.cst (.int 2))) (.cons (.v (.bi .min2 (.cons (.v (.bi .len (.cons (.v (.loc 0)) .nil))) (.cons (.v (.cst (.int 3))) .nil)))) .nil)))) .nil))) .nil))) .nil)
def f48 : FDef := ⟨"law", ["script"], ["script", "lap"], b48⟩
def fs0 : List FDef := [f0, f1, f2, f3, f4, f5, f6, f7, f8, f9, f10, f11, f12, f13, f14, f15, f16, f17, f18, f19]
def fs1 : List FDef := [f20, f21, f22, f23, f24, f25, f26, f27, f28, f29, f30, f31, f32, f33, f34, f35, f36, f37, f38, f39]
def fs2 : List FDef := [f40, f41, f42, f43, f44, f45, f46, f47, f48]
def fs : List FDef := fs0 ++ fs1 ++ fs2
def gl : List (Str × D) := [("LOW", (.int 0)), ("FARTHEST", (.int 9999)), ("HIGH", (.int 1)), ("FEWEST_PLACES", (.int 2)), ("MOST_PLACES", (.int 9)), ("UP", (.str (PySem.Str.ofString "up"))), ("DOWN", (.str (PySem.Str.ofString "down")))]
def kw : List (Nat × Nat × List Str × List Nat) := [(29, 0, ["place", "caps", "bounds"], [2, 1, 0])]
def I : SI := ⟨fs.map fun f => (f.name, f.ps), gl.map (·.1), kw, true⟩
def C : Cfg := ⟨gl.map (·.2), kw.map fun q => q.2.2.2⟩
end Lx

end Part_G_k77

section Part_k77M1
set_option maxRecDepth 100000
set_option maxHeartbeats 1000000
/-! M1: values, bounds, as the program tells them. -/
namespace Lx
open Lv PySem
/-- into a def -/
theorem run_to0 {C : Cfg} {fs : List FDef} {i : Nat} {f : FDef} {ds : List D} {env : Lv.Env} {body : CSs} (h : fs[i]? = some f) (hb : f.body = body) (he : startE f.N.length ds = env) (hl : ds.length = f.ps.length) (k : Nat) (u : U) : Lv.run C fs (k + 1) i ds u = (denSs C (Lv.run C fs k) body env u).bind endO := by
  rw [run_at h k ds u hl, hb, he]
@[irreducible] noncomputable def rn : Nat → Phi := Lv.run C fs
theorem rn_eq : rn = Lv.run C fs := by unfold rn; rfl
theorem run_to {i : Nat} {f : FDef} {ds : List D} {env : Lv.Env} {body : CSs} (h : fs[i]? = some f) (hb : f.body = body) (he : startE f.N.length ds = env) (hl : ds.length = f.ps.length) (k : Nat) (u : U) : rn (k + 1) i ds u = (denSs C (rn k) body env u).bind endO := by
  rw [rn_eq]
  exact run_to0 h hb he hl k u
theorem g_LOW (u : U) : lift C.glb[0]? u = .ok (.int 0) u := nr rfl
theorem g_HIGH (u : U) : lift C.glb[2]? u = .ok (.int 1) u := nr rfl
theorem g_FAR (u : U) : lift C.glb[1]? u = .ok (.int 9999) u := nr rfl
theorem g_FEW (u : U) : lift C.glb[3]? u = .ok (.int 2) u := nr rfl
theorem g_MOST (u : U) : lift C.glb[4]? u = .ok (.int 9) u := nr rfl
theorem i_int (i : Int) : isAny [.int] (.int i) = some true := nr rfl
theorem i_bool (i : Int) : isAny [.bool] (.int i) = some false := nr rfl
theorem i_tup (ds : List D) : isAny [.tuple] (.tup ds) = some true := nr rfl
theorem is_whole (k : Nat) (u : U) (i : Int) : rn (k + 1) 0 [.int i] u = .ok (.bl true) u := by
  rw [run_to (f := f0) (body := b0) (env := [.val (.int i)]) rfl rfl rfl rfl]
  unfold b0
  dsimp! [i_int, i_bool, Bool.not_false]
theorem is_between (k : Nat) (u : U) (i a b : Int) : rn (k + 2) 1 [.int i, .int a, .int b] u = .ok (.bl (decide (a ≤ i) && decide (i ≤ b))) u := by
  rw [run_to (f := f1) (body := b1) (env := [.val (.int i), .val (.int a), .val (.int b)]) rfl rfl rfl rfl]
  unfold b1
  dsimp! [is_whole k u i]
  by_cases h : a ≤ i
  · by_cases h2 : i ≤ b
    · dsimp! [h, h2, decide_true, Bool.and_self]
    · dsimp! [h, h2, decide_true, decide_false, Bool.and_false]
  · dsimp! [h, decide_false, Bool.false_and]
theorem is_tuple_of (k : Nat) (u : U) (ds : List D) (n : Int) : rn (k + 1) 2 [.tup ds, .int n] u = .ok (.bl (decide ((ds.length : Int) = n))) u := by
  rw [run_to (f := f2) (body := b2) (env := [.val (.tup ds), .val (.int n)]) rfl rfl rfl rfl]
  unfold b2
  dsimp! [i_tup, eq_ii]
/-- a pair of whole numbers -/
def pr (p : Int × Int) : D := .tup [.int p.1, .int p.2]
theorem pr0 (u : U) (p : Int × Int) : idxD u (pr p) (.int 0) = some (.int p.1) := nr rfl
theorem pr1 (u : U) (p : Int × Int) : idxD u (pr p) (.int 1) = some (.int p.2) := nr rfl
def OkP (p : Int × Int) : Prop := -9999 ≤ p.1 ∧ p.1 ≤ p.2 ∧ p.2 ≤ 9999
theorem is_pair_by (k : Nat) (u : U) {p : Int × Int} (h : OkP p) : rn (k + 3) 14 [pr p] u = .ok (.bl true) u := by
  obtain ⟨h1, h2, h3⟩ := h
  have e1 : rn (k + 2) 2 [pr p, .int 2] u = .ok (.bl true) u := by
    rw [show pr p = .tup [.int p.1, .int p.2] from rfl, is_tuple_of (k + 1) u]
    rfl
  have e2 : rn (k + 2) 1 [.int p.1, .int (-9999), .int 9999] u = .ok (.bl true) u := by
    rw [is_between k u, decide_eq_true h1, decide_eq_true (show p.1 ≤ 9999 by omega)]
    rfl
  have e3 : rn (k + 2) 1 [.int p.2, .int p.1, .int 9999] u = .ok (.bl true) u := by
    rw [is_between k u, decide_eq_true h2, decide_eq_true h3]
    rfl
  rw [run_to (f := f14) (body := b14) (env := [.val (pr p)]) rfl rfl rfl rfl]
  unfold b14
  dsimp! [e1, g_LOW, g_FAR, g_HIGH, pr0, pr1, e2, e3, Bool.not_true]
/-- nothing is wrong -/
theorem enm_mem {ds : List D} : ∀ {k : Int} {x : D}, x ∈ enmL k ds → ∃ i d, d ∈ ds ∧ x = .tup [.int i, d] := by
  induction ds with
  | nil => intro k x h; cases h
  | cons d ds ih =>
    intro k x h
    rcases List.mem_cons.mp h with rfl | h
    · exact ⟨k, d, List.mem_cons_self, rfl⟩
    · obtain ⟨i, d', h1, h2⟩ := ih h
      exact ⟨i, d', List.mem_cons_of_mem _ h1, h2⟩
theorem enmL_length : ∀ (ds : List D) (k : Int), (enmL k ds).length = ds.length
  | [], _ => rfl
  | d :: ds, k => congrArg (· + 1) (enmL_length ds (k + 1))
theorem lcRun_none {body : D → M (Option D)} {u : U} : ∀ {ds : List D}, (∀ d ∈ ds, body d u = .ok none u) → lcRun body ds u = .ok [] u
  | [], _ => rfl
  | d :: ds, h => by
    show (body d u).bind _ = _
    rw [h d List.mem_cons_self, bind_ok, lcRun_none fun x hx => h x (List.mem_cons_of_mem _ hx)]
    rfl
theorem first_wrong (k : Nat) (u : U) {ds : List D} {a b : Int} {f : Nat} (hl : a ≤ ds.length) (hl2 : ds.length ≤ b) (hb : ds.length ≤ 1000000) (h : ∀ d ∈ ds, rn k f [d] u = .ok (.bl true) u) : rn (k + 1) 3 [.tup ds, .int a, .int b, .fn f] u = .ok (.lst []) u := by
  have hI : denI C (rn k) (.enm (.loc 0) none) [.val (.tup ds), .val (.int a), .val (.int b), .val (.fn f), .no, .no] u = .ok (enmL 0 ds) u := by
    have e : enmD none (.tup ds) = some (enmL 0 ds) := rfl
    dsimp! [e]
  have key : lcRun (lcB C (rn k) (.loc 4) [4, 5] (.tp (.cons (.nm 4) (.cons (.nm 5) .nil))) (.cons (.notv (.callL 3 (.cons (.loc 5) .nil))) .nil) [.val (.tup ds), .val (.int a), .val (.int b), .val (.fn f), .no, .no]) (enmL 0 ds) u = .ok [] u := by
    refine lcRun_none fun x hx => ?_
    obtain ⟨i, d, hd, rfl⟩ := enm_mem hx
    unfold lcB
    have hw : wipeS [.val (.tup ds), .val (.int a), .val (.int b), .val (.fn f), .no, .no] [4, 5] = [.val (.tup ds), .val (.int a), .val (.int b), .val (.fn f), .no, .no] := rfl
    dsimp! [hw, h d hd, Bool.not_true]
  have hF := lc_run hI (by rw [enmL_length]; unfold line; omega) key
  rw [run_to (f := f3) (body := b3) (env := [.val (.tup ds), .val (.int a), .val (.int b), .val (.fn f), .no, .no]) rfl rfl rfl rfl]
  unfold b3
  have hs : slD (.lst []) none (some 1) u = .ok [] u := rfl
  dsimp! [i_tup, Bool.not_true, hl, hl2, decide_true, hF, hs]
end Lx

end Part_k77M1

section Part_k77M2
set_option maxRecDepth 100000
set_option maxHeartbeats 1000000
/-! M2: bounds and caps are right. -/
namespace Lx
open Lv PySem
abbrev BS := List (Int × Int)
def bnds (bs : BS) : D := .tup (bs.map pr)
def at_ (bs : BS) (i : Nat) : Int × Int := bs.getD i (0, 0)
theorem at_get {bs : BS} {i : Nat} (h : i < bs.length) : at_ bs i = bs[i] := by
  unfold at_; rw [List.getD_eq_getElem?_getD, List.getElem?_eq_getElem h]; rfl
theorem at_mem {bs : BS} {i : Nat} (h : i < bs.length) : at_ bs i ∈ bs := by rw [at_get h]; exact List.getElem_mem h
theorem b_idx (u : U) {bs : BS} {i : Nat} (h : i < bs.length) : idxD u (bnds bs) (.int i) = some (pr (at_ bs i)) := by
  unfold bnds
  rw [idx_tup' (by rw [List.length_map]; exact h), List.getElem_map, at_get h]
theorem b_idx0 (u : U) {bs : BS} (h : 0 < bs.length) : idxD u (bnds bs) (.int 0) = some (pr (at_ bs 0)) := b_idx u h
theorem idx_last {u : U} {ds : List D} (h : 0 < ds.length) : idxD u (.tup ds) (.int (-1)) = some (ds[ds.length - 1]'(by omega)) := by
  show atI ds (-1) = _
  unfold atI ixN
  rw [if_neg (by omega), if_pos (by omega)]
  show ds[((-1 : Int) + ds.length).toNat]? = _
  rw [show ((-1 : Int) + ds.length).toNat = ds.length - 1 by omega, List.getElem?_eq_getElem (by omega)]
theorem b_idxL (u : U) {bs : BS} (h : 0 < bs.length) : idxD u (bnds bs) (.int (-1)) = some (pr (at_ bs (bs.length - 1))) := by
  unfold bnds
  rw [idx_last (by rw [List.length_map]; exact h), List.getElem_map, at_get (by omega)]
  congr 2
  simp
theorem b_len (u : U) (bs : BS) : Bi.run u .len [bnds bs] = some (.int bs.length) := by
  unfold bnds
  rw [len_tup, List.length_map]
theorem b_its (bs : BS) : itsOf (bnds bs) = some (bs.map pr) := nr rfl
structure OkB (bs : BS) : Prop where
  two : 2 ≤ bs.length
  nine : bs.length ≤ 9
  ok : ∀ p ∈ bs, OkP p
  first : (at_ bs 0).1 = (at_ bs 0).2
  last : (at_ bs (bs.length - 1)).1 = (at_ bs (bs.length - 1)).2
structure OkC (bs cs : BS) : Prop where
  len : cs.length + 1 = bs.length
  ok : ∀ p ∈ cs, OkP p
theorem ne_nil : CmpO.run .ne (.lst []) (.lst []) = some false := nr rfl
theorem eq_nil : CmpO.run .eq (.lst []) (.lst []) = some true := nr rfl
theorem wrong_pairs (k : Nat) (u : U) {bs : BS} {a b : Int} (hl : a ≤ bs.length) (hl2 : bs.length ≤ b) (h9 : bs.length ≤ 9) (h : ∀ p ∈ bs, OkP p) : rn (k + 4) 3 [bnds bs, .int a, .int b, .fn 14] u = .ok (.lst []) u := by
  unfold bnds
  refine first_wrong (k + 3) u (by rw [List.length_map]; exact hl) (by rw [List.length_map]; exact hl2) (by rw [List.length_map]; omega) fun d hd => ?_
  obtain ⟨p, hp, rfl⟩ := List.mem_map.mp hd
  exact is_pair_by k u (h p hp)
theorem are_bounds_by (k : Nat) (u : U) {bs : BS} (h : OkB bs) : rn (k + 5) 15 [bnds bs] u = .ok (.bl true) u := by
  have h0 : 0 < bs.length := by have := h.two; omega
  have e1 := wrong_pairs k u (a := 2) (b := 9) (by have := h.two; omega) (by have := h.nine; omega) h.nine h.ok
  rw [run_to (f := f15) (body := b15) (env := [.val (bnds bs)]) rfl rfl rfl rfl]
  unfold b15
  dsimp! [g_LOW, g_HIGH, g_FEW, g_MOST, e1, ne_nil, b_idx0 u h0, b_idxL u h0, pr0, pr1, eq_ii, h.first, h.last, decide_true]
theorem check_bounds (k : Nat) (u : U) {bs : BS} (h : OkB bs) : rn (k + 6) 23 [bnds bs] u = .ok .non u := by
  have e1 := are_bounds_by k u h
  rw [run_to (f := f23) (body := b23) (env := [.val (bnds bs)]) rfl rfl rfl rfl]
  unfold b23
  dsimp! [e1, Bool.not_true]
theorem wrong_in_caps (k : Nat) (u : U) {bs cs : BS} (h : OkB bs) (hc : OkC bs cs) : rn (k + 5) 16 [bnds bs, bnds cs] u = .ok (.lst []) u := by
  have hl := hc.len
  have hn := h.nine
  have e1 := wrong_pairs k u (bs := cs) (a := (bs.length : Int) - 1) (b := (bs.length : Int) - 1) (by omega) (by omega) (by omega) hc.ok
  rw [run_to (f := f16) (body := b16) (env := [.val (bnds bs), .val (bnds cs)]) rfl rfl rfl rfl]
  unfold b16
  dsimp! [b_len, e1]
theorem check_caps (k : Nat) (u : U) {bs cs : BS} (h : OkB bs) (hc : OkC bs cs) : rn (k + 7) 26 [bnds bs, bnds cs] u = .ok .non u := by
  have e1 := check_bounds k u h
  have e2 := wrong_in_caps (k + 1) u h hc
  have e3 : itsOf (.lst []) = some [] := rfl
  rw [run_to (f := f26) (body := b26) (env := [.val (bnds bs), .val (bnds cs), .no]) rfl rfl rfl rfl]
  unfold b26
  dsimp! [e1, e2, S_for, e3]
  rfl
end Lx

end Part_k77M2

section Part_k77M3
set_option maxRecDepth 100000
set_option maxHeartbeats 1000000
/-! M3: sums between, least and greatest, caps kept. -/
namespace Lx
open Lv PySem
/-- sums of the caps ahead of a place -/
def pa (s : Int × Int → Int) (cs : BS) (k : Nat) : Int := ((cs.take k).map s).sum
theorem pa_succ {s : Int × Int → Int} {cs : BS} {k : Nat} (h : k < cs.length) : pa s cs (k + 1) = pa s cs k + s (at_ cs k) := by
  unfold pa
  rw [List.take_succ_eq_append_getElem h, List.map_append, List.sum_append, at_get h]
  simp
theorem sum_cut {s : Int × Int → Int} {cs : BS} {i j : Nat} (h : i ≤ j) : (((cs.drop i).take (j - i)).map s).sum = pa s cs j - pa s cs i := by
  unfold pa
  have e : cs.take j = cs.take i ++ (cs.drop i).take (j - i) := by
    rw [← List.take_add]
    congr 1
    omega
  rw [e, List.map_append, List.sum_append]
  omega
theorem cut_nat {α : Type} (xs : List α) {i j : Nat} (hi : i ≤ xs.length) (hj : j ≤ xs.length) : cut xs (some (i : Int)) (some (j : Int)) = (xs.drop i).take (j - i) := by
  unfold cut sIx
  dsimp only
  rw [if_neg (by omega), if_neg (by omega)]
  rw [Int.toNat_natCast, Int.toNat_natCast, Nat.min_eq_left hi, Nat.min_eq_left hj]
theorem intsOf_map (ns : List Int) : intsOf (ns.map D.int) = some ns := by
  induction ns with
  | nil => rfl
  | cons n ns ih => show (match intsOf (ns.map D.int) with | some l => some (n :: l) | none => none) = _; rw [ih]
theorem sum_lst (u : U) (ns : List Int) : Bi.run u .sum [.lst (ns.map D.int)] = some (.int ns.sum) := by
  show (match intsOf (ns.map D.int) with | some ns => some (D.int ns.sum) | none => none) = _
  rw [intsOf_map]
theorem max_lst (u : U) {ns : List Int} (h : ns ≠ []) : Bi.run u .max [.lst (ns.map D.int)] = some (.int (maxL ns)) := by
  show (match intsOf (ns.map D.int) with | some ns => if ns.isEmpty then none else some (D.int (maxL ns)) | none => none) = _
  rw [intsOf_map]
  show (if ns.isEmpty = true then none else some (D.int (maxL ns))) = _
  rw [if_neg (by simpa using h)]
theorem min_lst (u : U) {ns : List Int} (h : ns ≠ []) : Bi.run u .min [.lst (ns.map D.int)] = some (.int (minL ns)) := by
  show (match intsOf (ns.map D.int) with | some ns => if ns.isEmpty then none else some (D.int (minL ns)) | none => none) = _
  rw [intsOf_map]
  show (if ns.isEmpty = true then none else some (D.int (minL ns))) = _
  rw [if_neg (by simpa using h)]
theorem le_maxL : ∀ {ns : List Int} {x : Int}, x ∈ ns → x ≤ maxL ns
  | [a], x, h => by rw [List.mem_singleton.mp h]; exact Int.le_refl _
  | a :: b :: r, x, h => by
    show x ≤ (if a < maxL (b :: r) then maxL (b :: r) else a)
    have ih : ∀ y ∈ b :: r, y ≤ maxL (b :: r) := fun y hy => le_maxL hy
    rcases List.mem_cons.mp h with rfl | h
    · split <;> omega
    · have := ih x h
      split <;> omega
theorem maxL_mem : ∀ {ns : List Int}, ns ≠ [] → maxL ns ∈ ns
  | [], h => absurd rfl h
  | [a], _ => List.mem_singleton.mpr rfl
  | a :: b :: r, _ => by
    show (if a < maxL (b :: r) then maxL (b :: r) else a) ∈ _
    have ih := maxL_mem (ns := b :: r) (by simp)
    split
    · exact List.mem_cons_of_mem _ ih
    · exact List.mem_cons_self
theorem minL_le : ∀ {ns : List Int} {x : Int}, x ∈ ns → minL ns ≤ x
  | [a], x, h => by rw [List.mem_singleton.mp h]; exact Int.le_refl _
  | a :: b :: r, x, h => by
    show (if minL (b :: r) < a then minL (b :: r) else a) ≤ x
    have ih : ∀ y ∈ b :: r, minL (b :: r) ≤ y := fun y hy => minL_le hy
    rcases List.mem_cons.mp h with rfl | h
    · split <;> omega
    · have := ih x h
      split <;> omega
theorem minL_mem : ∀ {ns : List Int}, ns ≠ [] → minL ns ∈ ns
  | [], h => absurd rfl h
  | [a], _ => List.mem_singleton.mpr rfl
  | a :: b :: r, _ => by
    show (if minL (b :: r) < a then minL (b :: r) else a) ∈ _
    have ih := minL_mem (ns := b :: r) (by simp)
    split
    · exact List.mem_cons_of_mem _ ih
    · exact List.mem_cons_self
theorem rng2_nat {i j : Nat} (h : i ≤ 1000000) (h2 : j ≤ 1000000) : rng2D (.int i) (.int j) = some ((List.range (j - i)).map fun (t : Nat) => D.int ((i + t : Nat) : Int)) := by
  show (if (rngOk (i : Int) && rngOk (j : Int)) = true then some (rngL i j) else none) = _
  rw [if_pos (by unfold rngOk; simp; omega)]
  unfold rngL
  rw [show ((j : Int) - i).toNat = j - i by omega]
  congr 1
/-- a comprehension over the places ahead of n -/
theorem lc_rng1 {P : Phi} {elt : CE} {vs : List Nat} {tg : Tg} {a : CE} {env : Lv.Env} {u : U} {n : Nat} {g : Nat → D} (ha : denE C P a env u = .ok (.int (n : Int)) u) (hn : n ≤ 1000000) (h : ∀ i, i < n → lcB C P elt vs tg .nil env (.int (i : Int)) u = .ok (some (g i)) u) :
    denF C P (.lc elt vs tg (.rng1 a) .nil) env u = .ok ((List.range n).map g) u := by
  have hI : denI C P (.rng1 a) env u = .ok ((List.range n).map fun (i : Nat) => D.int i) u := by
    rw [I_rng1, ha, bind_ok, rng1_nat hn, lift_some]
  refine lc_run hI (by rw [List.length_map, List.length_range]; unfold line; omega) ?_
  have z : lcRun (lcB C P elt vs tg .nil env) ((List.range n).map fun (i : Nat) => D.int i) u = .ok (((List.range n).map fun (i : Nat) => D.int i).map fun d => match d with | .int i => g i.toNat | _ => .non) u := by
    refine lcRun_map fun x hx => ?_
    obtain ⟨i, hi, rfl⟩ := List.mem_map.mp hx
    exact h i (List.mem_range.mp hi)
  rw [z, List.map_map]
  rfl
theorem lc_rng2 {P : Phi} {elt : CE} {vs : List Nat} {tg : Tg} {a b : CE} {env : Lv.Env} {u : U} {i j : Nat} {g : Nat → D} (ha : denE C P a env u = .ok (.int (i : Int)) u) (hb : denE C P b env u = .ok (.int (j : Int)) u) (hn : i ≤ 1000000) (hj : j ≤ 1000000) (h : ∀ t, t < j - i → lcB C P elt vs tg .nil env (.int ((i + t : Nat) : Int)) u = .ok (some (g t)) u) :
    denF C P (.lc elt vs tg (.rng2 a b) .nil) env u = .ok ((List.range (j - i)).map g) u := by
  have hI : denI C P (.rng2 a b) env u = .ok ((List.range (j - i)).map fun (t : Nat) => D.int ((i + t : Nat) : Int)) u := by
    rw [I_rng2, ha, bind_ok, hb, bind_ok, rng2_nat hn hj, lift_some]
  refine lc_run hI (by rw [List.length_map, List.length_range]; unfold line; omega) ?_
  have z : lcRun (lcB C P elt vs tg .nil env) ((List.range (j - i)).map fun (t : Nat) => D.int ((i + t : Nat) : Int)) u = .ok (((List.range (j - i)).map fun (t : Nat) => D.int ((i + t : Nat) : Int)).map fun d => match d with | .int x => g (x.toNat - i) | _ => .non) u := by
    refine lcRun_map fun x hx => ?_
    obtain ⟨t, ht, rfl⟩ := List.mem_map.mp hx
    have e : ((i + t : Nat) : Int).toNat - i = t := by omega
    show _ = Res.ok (some (g (((i + t : Nat) : Int).toNat - i))) u
    rw [e]
    exact h t (List.mem_range.mp ht)
  rw [z, List.map_map]
  congr 1
  refine List.map_congr_left fun t _ => ?_
  show g (((i + t : Nat) : Int).toNat - i) = g t
  rw [show ((i + t : Nat) : Int).toNat - i = t by omega]
/-- over what stands in a row -/
theorem lc_seq {P : Phi} {elt : CE} {vs : List Nat} {tg : Tg} {o : Op} {env : Lv.Env} {u : U} {α : Type} {xs : List α} {f g : α → D} {d : D} (ho : denO C P o env u = .ok d u) (hd : itsOf d = some (xs.map f)) (hn : xs.length ≤ 1000000) (h : ∀ x ∈ xs, lcB C P elt vs tg .nil env (f x) u = .ok (some (g x)) u) :
    denF C P (.lc elt vs tg (.seq o) .nil) env u = .ok (xs.map g) u := by
  have hI : denI C P (.seq o) env u = .ok (xs.map f) u := by
    rw [I_seq, ho, bind_ok, hd, lift_some]
  refine lc_run hI (by rw [List.length_map]; unfold line; omega) ?_
  clear hI hd hn ho
  induction xs with
  | nil => rfl
  | cons x xs ih =>
    show ((lcB C P elt vs tg .nil env (f x)) u).bind _ = _
    rw [h x List.mem_cons_self, bind_ok]
    have z := ih fun y hy => h y (List.mem_cons_of_mem _ hy)
    show (lcRun (lcB C P elt vs tg .nil env) (xs.map f) u).bind _ = _
    rw [z]
    rfl
theorem slT_b {cs : BS} {i j : Nat} (hi : i ≤ cs.length) (hj : j ≤ cs.length) (u : U) : slTD (bnds cs) (some (i : Int)) (some (j : Int)) u = .ok (bnds ((cs.drop i).take (j - i))) u := by
  show Res.ok (D.tup (cut (cs.map pr) (some (i : Int)) (some (j : Int)))) u = _
  rw [cut_nat _ (by rw [List.length_map]; exact hi) (by rw [List.length_map]; exact hj)]
  unfold bnds
  rw [List.map_take, List.map_drop]
theorem sum_between0 (k : Nat) (u : U) {cs : BS} {i j : Nat} (hij : i ≤ j) (hj : j ≤ cs.length) (hn : cs.length ≤ 1000) : rn (k + 1) 17 [bnds cs, .int (i : Int), .int (j : Int), .int 0] u = .ok (.int (pa (·.1) cs j - pa (·.1) cs i)) u := by
  have hF := lc_seq (P := rn k) (elt := .idx (.v (.loc 4)) (.loc 3)) (vs := [4]) (tg := .nm 4) (o := .v (.slT (.v (.loc 0)) (.so (.loc 1)) (.so (.loc 2)))) (env := [.val (bnds cs), .val (.int (i : Int)), .val (.int (j : Int)), .val (.int 0), .no]) (u := u) (xs := (cs.drop i).take (j - i)) (f := pr) (g := fun p => .int p.1)
    (by dsimp! [slT_b (cs := cs) (i := i) (j := j) (by omega) hj]) (b_its _) (by simp; omega) fun x hx => by
      unfold lcB
      have hw : wipeS [.val (bnds cs), .val (.int (i : Int)), .val (.int (j : Int)), .val (.int 0), .no] [4] = [.val (bnds cs), .val (.int (i : Int)), .val (.int (j : Int)), .val (.int 0), .no] := rfl
      dsimp! [hw, pr0]
  have e : ((cs.drop i).take (j - i)).map (fun p => D.int p.1) = (((cs.drop i).take (j - i)).map (·.1)).map D.int := by rw [List.map_map]; rfl
  rw [run_to (f := f17) (body := b17) (env := [.val (bnds cs), .val (.int (i : Int)), .val (.int (j : Int)), .val (.int 0), .no]) rfl rfl rfl rfl]
  unfold b17
  dsimp! [hF, e, sum_lst, sum_cut hij]
theorem sum_between1 (k : Nat) (u : U) {cs : BS} {i j : Nat} (hij : i ≤ j) (hj : j ≤ cs.length) (hn : cs.length ≤ 1000) : rn (k + 1) 17 [bnds cs, .int (i : Int), .int (j : Int), .int 1] u = .ok (.int (pa (·.2) cs j - pa (·.2) cs i)) u := by
  have hF := lc_seq (P := rn k) (elt := .idx (.v (.loc 4)) (.loc 3)) (vs := [4]) (tg := .nm 4) (o := .v (.slT (.v (.loc 0)) (.so (.loc 1)) (.so (.loc 2)))) (env := [.val (bnds cs), .val (.int (i : Int)), .val (.int (j : Int)), .val (.int 1), .no]) (u := u) (xs := (cs.drop i).take (j - i)) (f := pr) (g := fun p => .int p.2)
    (by dsimp! [slT_b (cs := cs) (i := i) (j := j) (by omega) hj]) (b_its _) (by simp; omega) fun x hx => by
      unfold lcB
      have hw : wipeS [.val (bnds cs), .val (.int (i : Int)), .val (.int (j : Int)), .val (.int 1), .no] [4] = [.val (bnds cs), .val (.int (i : Int)), .val (.int (j : Int)), .val (.int 1), .no] := rfl
      dsimp! [hw, pr1]
  have e : ((cs.drop i).take (j - i)).map (fun p => D.int p.2) = (((cs.drop i).take (j - i)).map (·.2)).map D.int := by rw [List.map_map]; rfl
  rw [run_to (f := f17) (body := b17) (env := [.val (bnds cs), .val (.int (i : Int)), .val (.int (j : Int)), .val (.int 1), .no]) rfl rfl rfl rfl]
  unfold b17
  dsimp! [hF, e, sum_lst, sum_cut hij]
end Lx

end Part_k77M3

section Part_k77M4
set_option maxRecDepth 100000
set_option maxHeartbeats 1000000
/-! M4: least and greatest heights. -/
namespace Lx
open Lv PySem
def lowA (bs cs : BS) (p : Nat) : List Int := (List.range (p + 1)).map fun i => (at_ bs i).1 + (pa (·.1) cs p - pa (·.1) cs i)
def lowB (bs cs : BS) (p : Nat) : List Int := (List.range (bs.length - p)).map fun t => (at_ bs (p + t)).1 - (pa (·.2) cs (p + t) - pa (·.2) cs p)
def higA (bs cs : BS) (p : Nat) : List Int := (List.range (p + 1)).map fun i => (at_ bs i).2 + (pa (·.2) cs p - pa (·.2) cs i)
def higB (bs cs : BS) (p : Nat) : List Int := (List.range (bs.length - p)).map fun t => (at_ bs (p + t)).2 - (pa (·.1) cs (p + t) - pa (·.1) cs p)
def least (bs cs : BS) (p : Nat) : Int := maxL (lowA bs cs p ++ lowB bs cs p)
def great (bs cs : BS) (p : Nat) : Int := minL (higA bs cs p ++ higB bs cs p)
theorem succ_cast (p : Nat) : (p : Int) + 1 = ((p + 1 : Nat) : Int) := by omega
section
variable {bs cs : BS} (h : OkB bs) (hc : OkC bs cs)
include h hc
theorem least_at (k : Nat) (u : U) {p : Nat} (hp : p < bs.length) : rn (k + 2) 18 [bnds bs, bnds cs, .int (p : Int)] u = .ok (.int (least bs cs p)) u := by
  have hl := hc.len
  have hn := h.nine
  have F1 := lc_rng1 (P := rn (k + 1)) (elt := .bin .add (.idx (.v (.idx (.v (.loc 0)) (.loc 4))) (.glb 0)) (.call 17 (.cons (.loc 1) (.cons (.loc 4) (.cons (.loc 2) (.cons (.glb 0) .nil)))))) (vs := [4]) (tg := .nm 4) (a := .bin .add (.loc 2) (.cst (.int 1))) (env := [.val (bnds bs), .val (bnds cs), .val (.int (p : Int)), .no, .no]) (u := u) (n := p + 1)
    (g := fun i => .int ((at_ bs i).1 + (pa (·.1) cs p - pa (·.1) cs i))) (by dsimp! []; rw [succ_cast]) (by omega) fun i hi => by
      have e1 := b_idx u (bs := bs) (i := i) (by omega)
      have e2 := sum_between0 k u (cs := cs) (i := i) (j := p) (by omega) (by omega) (by omega)
      have hw : wipeS [.val (bnds bs), .val (bnds cs), .val (.int (p : Int)), .no, .no] [4] = [.val (bnds bs), .val (bnds cs), .val (.int (p : Int)), .no, .no] := rfl
      unfold lcB
      dsimp! [hw, e1, g_LOW, pr0, e2]
  have F2 := lc_rng2 (P := rn (k + 1)) (elt := .bin .sub (.idx (.v (.idx (.v (.loc 0)) (.loc 4))) (.glb 0)) (.call 17 (.cons (.loc 1) (.cons (.loc 2) (.cons (.loc 4) (.cons (.glb 2) .nil)))))) (vs := [4]) (tg := .nm 4) (a := .loc 2) (b := .bi .len (.cons (.v (.loc 0)) .nil)) (env := [.val (bnds bs), .val (bnds cs), .val (.int (p : Int)), .val (.lst ((lowA bs cs p).map D.int)), .no]) (u := u) (i := p) (j := bs.length)
    (g := fun t => .int ((at_ bs (p + t)).1 - (pa (·.2) cs (p + t) - pa (·.2) cs p))) (by dsimp! []) (by dsimp! [b_len]) (by omega) (by omega) fun t ht => by
      have e1 := b_idx u (bs := bs) (i := p + t) (by omega)
      have e2 := sum_between1 k u (cs := cs) (i := p) (j := p + t) (by omega) (by omega) (by omega)
      have hw : wipeS [.val (bnds bs), .val (bnds cs), .val (.int (p : Int)), .val (.lst ((lowA bs cs p).map D.int)), .no] [4] = [.val (bnds bs), .val (bnds cs), .val (.int (p : Int)), .val (.lst ((lowA bs cs p).map D.int)), .no] := rfl
      unfold lcB
      dsimp! [hw, e1, g_LOW, g_HIGH, pr0, e2]
  have E1 : (List.range (p + 1)).map (fun i => D.int ((at_ bs i).1 + (pa (·.1) cs p - pa (·.1) cs i))) = (lowA bs cs p).map D.int := by unfold lowA; rw [List.map_map]; rfl
  have E2 : (List.range (bs.length - p)).map (fun t => D.int ((at_ bs (p + t)).1 - (pa (·.2) cs (p + t) - pa (·.2) cs p))) = (lowB bs cs p).map D.int := by unfold lowB; rw [List.map_map]; rfl
  rw [E1] at F1
  rw [E2] at F2
  have hcat : catD (.lst ((lowA bs cs p).map D.int)) (.lst ((lowB bs cs p).map D.int)) u = .ok ((lowA bs cs p ++ lowB bs cs p).map D.int) u := by
    rw [cat_ll (by unfold lowA lowB line; simp; omega), List.map_append]
  have hne : lowA bs cs p ++ lowB bs cs p ≠ [] := by unfold lowA; rw [List.range_succ]; simp
  rw [run_to (f := f18) (body := b18) (env := [.val (bnds bs), .val (bnds cs), .val (.int (p : Int)), .no, .no]) rfl rfl rfl rfl]
  unfold b18
  dsimp! [F1, F2, hcat, max_lst u hne]
  rfl
theorem greatest_at (k : Nat) (u : U) {p : Nat} (hp : p < bs.length) : rn (k + 2) 19 [bnds bs, bnds cs, .int (p : Int)] u = .ok (.int (great bs cs p)) u := by
  have hl := hc.len
  have hn := h.nine
  have F1 := lc_rng1 (P := rn (k + 1)) (elt := .bin .add (.idx (.v (.idx (.v (.loc 0)) (.loc 4))) (.glb 2)) (.call 17 (.cons (.loc 1) (.cons (.loc 4) (.cons (.loc 2) (.cons (.glb 2) .nil)))))) (vs := [4]) (tg := .nm 4) (a := .bin .add (.loc 2) (.cst (.int 1))) (env := [.val (bnds bs), .val (bnds cs), .val (.int (p : Int)), .no, .no]) (u := u) (n := p + 1)
    (g := fun i => .int ((at_ bs i).2 + (pa (·.2) cs p - pa (·.2) cs i))) (by dsimp! []; rw [succ_cast]) (by omega) fun i hi => by
      have e1 := b_idx u (bs := bs) (i := i) (by omega)
      have e2 := sum_between1 k u (cs := cs) (i := i) (j := p) (by omega) (by omega) (by omega)
      have hw : wipeS [.val (bnds bs), .val (bnds cs), .val (.int (p : Int)), .no, .no] [4] = [.val (bnds bs), .val (bnds cs), .val (.int (p : Int)), .no, .no] := rfl
      unfold lcB
      dsimp! [hw, e1, g_HIGH, pr1, e2]
  have F2 := lc_rng2 (P := rn (k + 1)) (elt := .bin .sub (.idx (.v (.idx (.v (.loc 0)) (.loc 4))) (.glb 2)) (.call 17 (.cons (.loc 1) (.cons (.loc 2) (.cons (.loc 4) (.cons (.glb 0) .nil)))))) (vs := [4]) (tg := .nm 4) (a := .loc 2) (b := .bi .len (.cons (.v (.loc 0)) .nil)) (env := [.val (bnds bs), .val (bnds cs), .val (.int (p : Int)), .val (.lst ((higA bs cs p).map D.int)), .no]) (u := u) (i := p) (j := bs.length)
    (g := fun t => .int ((at_ bs (p + t)).2 - (pa (·.1) cs (p + t) - pa (·.1) cs p))) (by dsimp! []) (by dsimp! [b_len]) (by omega) (by omega) fun t ht => by
      have e1 := b_idx u (bs := bs) (i := p + t) (by omega)
      have e2 := sum_between0 k u (cs := cs) (i := p) (j := p + t) (by omega) (by omega) (by omega)
      have hw : wipeS [.val (bnds bs), .val (bnds cs), .val (.int (p : Int)), .val (.lst ((higA bs cs p).map D.int)), .no] [4] = [.val (bnds bs), .val (bnds cs), .val (.int (p : Int)), .val (.lst ((higA bs cs p).map D.int)), .no] := rfl
      unfold lcB
      dsimp! [hw, e1, g_LOW, g_HIGH, pr1, e2]
  have E1 : (List.range (p + 1)).map (fun i => D.int ((at_ bs i).2 + (pa (·.2) cs p - pa (·.2) cs i))) = (higA bs cs p).map D.int := by unfold higA; rw [List.map_map]; rfl
  have E2 : (List.range (bs.length - p)).map (fun t => D.int ((at_ bs (p + t)).2 - (pa (·.1) cs (p + t) - pa (·.1) cs p))) = (higB bs cs p).map D.int := by unfold higB; rw [List.map_map]; rfl
  rw [E1] at F1
  rw [E2] at F2
  have hcat : catD (.lst ((higA bs cs p).map D.int)) (.lst ((higB bs cs p).map D.int)) u = .ok ((higA bs cs p ++ higB bs cs p).map D.int) u := by
    rw [cat_ll (by unfold higA higB line; simp; omega), List.map_append]
  have hne : higA bs cs p ++ higB bs cs p ≠ [] := by unfold higA; rw [List.range_succ]; simp
  rw [run_to (f := f19) (body := b19) (env := [.val (bnds bs), .val (bnds cs), .val (.int (p : Int)), .no, .no]) rfl rfl rfl rfl]
  unfold b19
  dsimp! [F1, F2, hcat, min_lst u hne]
  rfl
/-- the caps can be kept -/
theorem can_keep_caps_by (k : Nat) (u : U) : rn (k + 3) 20 [bnds bs, bnds cs] u = .ok (.bl ((List.range bs.length).all fun p => decide (least bs cs p ≤ great bs cs p))) u := by
  have hn := h.nine
  have F1 := lc_rng1 (P := rn (k + 2)) (elt := .cmp .le (.v (.call 18 (.cons (.loc 0) (.cons (.loc 1) (.cons (.loc 2) .nil))))) (.v (.call 19 (.cons (.loc 0) (.cons (.loc 1) (.cons (.loc 2) .nil)))))) (vs := [2]) (tg := .nm 2) (a := .bi .len (.cons (.v (.loc 0)) .nil)) (env := [.val (bnds bs), .val (bnds cs), .no]) (u := u) (n := bs.length)
    (g := fun p => .bl (decide (least bs cs p ≤ great bs cs p))) (by dsimp! [b_len]) (by omega) fun p hp => by
      have hw : wipeS [.val (bnds bs), .val (bnds cs), .no] [2] = [.val (bnds bs), .val (bnds cs), .no] := rfl
      unfold lcB
      dsimp! [hw, least_at h hc k u hp, greatest_at h hc k u hp]
  have e : (List.range bs.length).map (fun p => D.bl (decide (least bs cs p ≤ great bs cs p))) = ((List.range bs.length).map fun p => decide (least bs cs p ≤ great bs cs p)).map D.bl := by rw [List.map_map]; rfl
  rw [e] at F1
  rw [run_to (f := f20) (body := b20) (env := [.val (bnds bs), .val (bnds cs), .no]) rfl rfl rfl rfl]
  unfold b20
  dsimp! [F1, all_lst]
  rw [List.all_map]
  rfl
def Can (bs cs : BS) : Prop := ∀ p, p < bs.length → least bs cs p ≤ great bs cs p
/-- the run told -/
def runD (bs cs : BS) : D := .tup ((List.range bs.length).map fun p => Q ((least bs cs p : Int) : Rat))
theorem can_all : ((List.range bs.length).all fun p => decide (least bs cs p ≤ great bs cs p)) = true ↔ Can bs cs := by
  rw [List.all_eq_true]
  constructor
  · intro z p hp
    exact of_decide_eq_true (z p (List.mem_range.mpr hp))
  · intro z p hp
    exact decide_eq_true (z p (List.mem_range.mp hp))
end
end Lx

end Part_k77M4

section Part_k77M5
set_option maxRecDepth 100000
set_option maxHeartbeats 1000000
/-! M5: reaches: plain laws. -/
namespace Lx
open Lv PySem
abbrev pA (cs : BS) (k : Nat) : Int := pa (·.1) cs k
abbrev pB (cs : BS) (k : Nat) : Int := pa (·.2) cs k
def fL (bs cs : BS) (p : Nat) : Int := maxL (lowA bs cs p)
def fG (bs cs : BS) (p : Nat) : Int := minL (higA bs cs p)
theorem maxL_ub {ns : List Int} {x : Int} (hn : ns ≠ []) (h : ∀ y ∈ ns, y ≤ x) : maxL ns ≤ x := h _ (maxL_mem hn)
theorem minL_lb {ns : List Int} {x : Int} (hn : ns ≠ []) (h : ∀ y ∈ ns, x ≤ y) : x ≤ minL ns := h _ (minL_mem hn)
section
variable {bs cs : BS} (h : OkB bs) (hc : OkC bs cs)
theorem lowA_ne (p : Nat) : lowA bs cs p ≠ [] := by unfold lowA; rw [List.range_succ]; simp
theorem higA_ne (p : Nat) : higA bs cs p ≠ [] := by unfold higA; rw [List.range_succ]; simp
theorem mem_lowA {p i : Nat} (hi : i ≤ p) : (at_ bs i).1 + (pA cs p - pA cs i) ∈ lowA bs cs p := List.mem_map.mpr ⟨i, List.mem_range.mpr (by omega), rfl⟩
theorem mem_higA {p i : Nat} (hi : i ≤ p) : (at_ bs i).2 + (pB cs p - pB cs i) ∈ higA bs cs p := List.mem_map.mpr ⟨i, List.mem_range.mpr (by omega), rfl⟩
theorem of_lowA {p : Nat} {x : Int} (hx : x ∈ lowA bs cs p) : ∃ i, i ≤ p ∧ x = (at_ bs i).1 + (pA cs p - pA cs i) := by
  obtain ⟨i, hi, rfl⟩ := List.mem_map.mp hx
  exact ⟨i, by have := List.mem_range.mp hi; omega, rfl⟩
theorem of_higA {p : Nat} {x : Int} (hx : x ∈ higA bs cs p) : ∃ i, i ≤ p ∧ x = (at_ bs i).2 + (pB cs p - pB cs i) := by
  obtain ⟨i, hi, rfl⟩ := List.mem_map.mp hx
  exact ⟨i, by have := List.mem_range.mp hi; omega, rfl⟩
theorem mem_lowB {p i : Nat} (hi : p ≤ i) (hl : i < bs.length) : (at_ bs i).1 - (pB cs i - pB cs p) ∈ lowB bs cs p := List.mem_map.mpr ⟨i - p, List.mem_range.mpr (by omega), by rw [show p + (i - p) = i by omega]⟩
theorem mem_higB {p i : Nat} (hi : p ≤ i) (hl : i < bs.length) : (at_ bs i).2 - (pA cs i - pA cs p) ∈ higB bs cs p := List.mem_map.mpr ⟨i - p, List.mem_range.mpr (by omega), by rw [show p + (i - p) = i by omega]⟩
theorem of_lowB {p : Nat} {x : Int} (hx : x ∈ lowB bs cs p) : ∃ i, p ≤ i ∧ i < bs.length ∧ x = (at_ bs i).1 - (pB cs i - pB cs p) := by
  obtain ⟨t, ht, rfl⟩ := List.mem_map.mp hx
  exact ⟨p + t, by omega, by have := List.mem_range.mp ht; omega, rfl⟩
theorem of_higB {p : Nat} {x : Int} (hx : x ∈ higB bs cs p) : ∃ i, p ≤ i ∧ i < bs.length ∧ x = (at_ bs i).2 - (pA cs i - pA cs p) := by
  obtain ⟨t, ht, rfl⟩ := List.mem_map.mp hx
  exact ⟨p + t, by omega, by have := List.mem_range.mp ht; omega, rfl⟩
/-- what stands below the least height, and what it is -/
theorem least_ge1 {p i : Nat} (hi : i ≤ p) : (at_ bs i).1 + (pA cs p - pA cs i) ≤ least bs cs p := le_maxL (List.mem_append_left _ (mem_lowA hi))
theorem least_ge2 {p i : Nat} (hi : p ≤ i) (hl : i < bs.length) : (at_ bs i).1 - (pB cs i - pB cs p) ≤ least bs cs p := le_maxL (List.mem_append_right _ (mem_lowB hi hl))
theorem great_le1 {p i : Nat} (hi : i ≤ p) : great bs cs p ≤ (at_ bs i).2 + (pB cs p - pB cs i) := minL_le (List.mem_append_left _ (mem_higA hi))
theorem great_le2 {p i : Nat} (hi : p ≤ i) (hl : i < bs.length) : great bs cs p ≤ (at_ bs i).2 - (pA cs i - pA cs p) := minL_le (List.mem_append_right _ (mem_higB hi hl))
theorem least_le {p : Nat} {x : Int} (h1 : ∀ i, i ≤ p → (at_ bs i).1 + (pA cs p - pA cs i) ≤ x) (h2 : ∀ i, p ≤ i → i < bs.length → (at_ bs i).1 - (pB cs i - pB cs p) ≤ x) : least bs cs p ≤ x := by
  refine maxL_ub (by simp [lowA_ne]) fun y hy => ?_
  rcases List.mem_append.mp hy with hy | hy
  · obtain ⟨i, hi, rfl⟩ := of_lowA hy; exact h1 i hi
  · obtain ⟨i, hi, hl, rfl⟩ := of_lowB hy; exact h2 i hi hl
theorem great_ge {p : Nat} {x : Int} (h1 : ∀ i, i ≤ p → x ≤ (at_ bs i).2 + (pB cs p - pB cs i)) (h2 : ∀ i, p ≤ i → i < bs.length → x ≤ (at_ bs i).2 - (pA cs i - pA cs p)) : x ≤ great bs cs p := by
  refine minL_lb (by simp [higA_ne]) fun y hy => ?_
  rcases List.mem_append.mp hy with hy | hy
  · obtain ⟨i, hi, rfl⟩ := of_higA hy; exact h1 i hi
  · obtain ⟨i, hi, hl, rfl⟩ := of_higB hy; exact h2 i hi hl
theorem fL_ge {p i : Nat} (hi : i ≤ p) : (at_ bs i).1 + (pA cs p - pA cs i) ≤ fL bs cs p := le_maxL (mem_lowA hi)
theorem fG_le {p i : Nat} (hi : i ≤ p) : fG bs cs p ≤ (at_ bs i).2 + (pB cs p - pB cs i) := minL_le (mem_higA hi)
theorem fL_le {p : Nat} {x : Int} (h1 : ∀ i, i ≤ p → (at_ bs i).1 + (pA cs p - pA cs i) ≤ x) : fL bs cs p ≤ x :=
  maxL_ub (lowA_ne p) fun y hy => by obtain ⟨i, hi, rfl⟩ := of_lowA hy; exact h1 i hi
theorem fG_ge {p : Nat} {x : Int} (h1 : ∀ i, i ≤ p → x ≤ (at_ bs i).2 + (pB cs p - pB cs i)) : x ≤ fG bs cs p :=
  minL_lb (higA_ne p) fun y hy => by obtain ⟨i, hi, rfl⟩ := of_higA hy; exact h1 i hi
theorem fL_0 : fL bs cs 0 = (at_ bs 0).1 := by
  apply Int.le_antisymm
  · refine fL_le fun i hi => ?_
    obtain rfl : i = 0 := by omega
    omega
  · have := fL_ge (bs := bs) (cs := cs) (p := 0) (i := 0) (by omega)
    omega
theorem fG_0 : fG bs cs 0 = (at_ bs 0).2 := by
  apply Int.le_antisymm
  · have := fG_le (bs := bs) (cs := cs) (p := 0) (i := 0) (by omega)
    omega
  · refine fG_ge fun i hi => ?_
    obtain rfl : i = 0 := by omega
    omega
def mx (a b : Int) : Int := if b > a then b else a
def mn (a b : Int) : Int := if b < a then b else a
theorem mx_le {a b x : Int} (h1 : a ≤ x) (h2 : b ≤ x) : mx a b ≤ x := by unfold mx; split <;> assumption
theorem le_mx1 (a b : Int) : a ≤ mx a b := by unfold mx; split <;> omega
theorem le_mx2 (a b : Int) : b ≤ mx a b := by unfold mx; split <;> omega
theorem le_mn {a b x : Int} (h1 : x ≤ a) (h2 : x ≤ b) : x ≤ mn a b := by unfold mn; split <;> assumption
theorem mn_le1 (a b : Int) : mn a b ≤ a := by unfold mn; split <;> omega
theorem mn_le2 (a b : Int) : mn a b ≤ b := by unfold mn; split <;> omega
theorem fL_s {k : Nat} (hk : k < cs.length) : mx (at_ bs (k + 1)).1 (fL bs cs k + (at_ cs k).1) = fL bs cs (k + 1) := by
  have hp : pA cs (k + 1) = pA cs k + (at_ cs k).1 := pa_succ (s := (·.1)) hk
  apply Int.le_antisymm
  · refine mx_le ?_ ?_
    · have := fL_ge (bs := bs) (cs := cs) (p := k + 1) (i := k + 1) (by omega); omega
    · have : fL bs cs k ≤ fL bs cs (k + 1) - (at_ cs k).1 := fL_le fun i hi => by
        have := fL_ge (bs := bs) (cs := cs) (p := k + 1) (i := i) (by omega); omega
      omega
  · refine fL_le fun i hi => ?_
    have h1 := le_mx1 (at_ bs (k + 1)).1 (fL bs cs k + (at_ cs k).1)
    have h2 := le_mx2 (at_ bs (k + 1)).1 (fL bs cs k + (at_ cs k).1)
    by_cases e : i = k + 1
    · subst e; omega
    · have := fL_ge (bs := bs) (cs := cs) (p := k) (i := i) (by omega); omega
theorem fG_s {k : Nat} (hk : k < cs.length) : mn (at_ bs (k + 1)).2 (fG bs cs k + (at_ cs k).2) = fG bs cs (k + 1) := by
  have hp : pB cs (k + 1) = pB cs k + (at_ cs k).2 := pa_succ (s := (·.2)) hk
  apply Int.le_antisymm
  · refine fG_ge fun i hi => ?_
    have h1 := mn_le1 (at_ bs (k + 1)).2 (fG bs cs k + (at_ cs k).2)
    have h2 := mn_le2 (at_ bs (k + 1)).2 (fG bs cs k + (at_ cs k).2)
    by_cases e : i = k + 1
    · subst e; omega
    · have := fG_le (bs := bs) (cs := cs) (p := k) (i := i) (by omega); omega
  · refine le_mn ?_ ?_
    · have := fG_le (bs := bs) (cs := cs) (p := k + 1) (i := k + 1) (by omega); omega
    · have : fG bs cs (k + 1) - (at_ cs k).2 ≤ fG bs cs k := fG_ge fun i hi => by
        have := fG_le (bs := bs) (cs := cs) (p := k + 1) (i := i) (by omega); omega
      omega
include h hc
/-- sums of A are no more than sums of B -/
theorem pAB {i : Nat} : ∀ {j : Nat}, i ≤ j → j ≤ cs.length → pA cs j - pA cs i ≤ pB cs j - pB cs i
  | 0, hi, _ => by obtain rfl : i = 0 := by omega
                   omega
  | j + 1, hi, hj => by
    by_cases e : i = j + 1
    · subst e; omega
    · have ih := pAB (i := i) (j := j) (by omega) (by omega)
      have h1 : pA cs (j + 1) = pA cs j + (at_ cs j).1 := pa_succ (s := (·.1)) (by omega)
      have h2 : pB cs (j + 1) = pB cs j + (at_ cs j).2 := pa_succ (s := (·.2)) (by omega)
      have := (hc.ok _ (at_mem (bs := cs) (i := j) (by omega))).2.1
      omega
theorem least_last : least bs cs (bs.length - 1) = fL bs cs (bs.length - 1) := by
  have h2 := h.two
  apply Int.le_antisymm
  · refine least_le (fun i hi => fL_ge hi) fun i hi hl => ?_
    obtain rfl : i = bs.length - 1 := by omega
    have := fL_ge (bs := bs) (cs := cs) (p := bs.length - 1) (i := bs.length - 1) (by omega)
    omega
  · exact fL_le fun i hi => least_ge1 hi
theorem great_last : great bs cs (bs.length - 1) = fG bs cs (bs.length - 1) := by
  have h2 := h.two
  apply Int.le_antisymm
  · exact fG_ge fun i hi => great_le1 hi
  · refine great_ge (fun i hi => fG_le hi) fun i hi hl => ?_
    obtain rfl : i = bs.length - 1 := by omega
    have := fG_le (bs := bs) (cs := cs) (p := bs.length - 1) (i := bs.length - 1) (by omega)
    omega
theorem least_s {p : Nat} (hp : p + 1 < bs.length) : mx (fL bs cs p) (least bs cs (p + 1) - (at_ cs p).2) = least bs cs p := by
  have hl := hc.len
  have h1 : pA cs (p + 1) = pA cs p + (at_ cs p).1 := pa_succ (s := (·.1)) (by omega)
  have h2 : pB cs (p + 1) = pB cs p + (at_ cs p).2 := pa_succ (s := (·.2)) (by omega)
  have hab := (hc.ok _ (at_mem (bs := cs) (i := p) (by omega))).2.1
  apply Int.le_antisymm
  · refine mx_le (fL_le fun i hi => least_ge1 hi) ?_
    have : least bs cs (p + 1) ≤ least bs cs p + (at_ cs p).2 := least_le (fun i hi => by
      by_cases e : i = p + 1
      · subst e
        have := least_ge2 (bs := bs) (cs := cs) (p := p) (i := p + 1) (by omega) hp
        omega
      · have := least_ge1 (bs := bs) (cs := cs) (p := p) (i := i) (by omega)
        omega) fun i hi hl' => by
        have := least_ge2 (bs := bs) (cs := cs) (p := p) (i := i) (by omega) hl'
        omega
    omega
  · have m1 := le_mx1 (fL bs cs p) (least bs cs (p + 1) - (at_ cs p).2)
    have m2 := le_mx2 (fL bs cs p) (least bs cs (p + 1) - (at_ cs p).2)
    refine least_le (fun i hi => ?_) fun i hi hl' => ?_
    · have := fL_ge (bs := bs) (cs := cs) (p := p) (i := i) hi; omega
    · by_cases e : i = p
      · subst e
        have := fL_ge (bs := bs) (cs := cs) (p := i) (i := i) (by omega); omega
      · have := least_ge2 (bs := bs) (cs := cs) (p := p + 1) (i := i) (by omega) hl'
        omega
theorem great_s {p : Nat} (hp : p + 1 < bs.length) : mn (fG bs cs p) (great bs cs (p + 1) - (at_ cs p).1) = great bs cs p := by
  have hl := hc.len
  have h1 : pA cs (p + 1) = pA cs p + (at_ cs p).1 := pa_succ (s := (·.1)) (by omega)
  have h2 : pB cs (p + 1) = pB cs p + (at_ cs p).2 := pa_succ (s := (·.2)) (by omega)
  have hab := (hc.ok _ (at_mem (bs := cs) (i := p) (by omega))).2.1
  apply Int.le_antisymm
  · have m1 := mn_le1 (fG bs cs p) (great bs cs (p + 1) - (at_ cs p).1)
    have m2 := mn_le2 (fG bs cs p) (great bs cs (p + 1) - (at_ cs p).1)
    refine great_ge (fun i hi => ?_) fun i hi hl' => ?_
    · have := fG_le (bs := bs) (cs := cs) (p := p) (i := i) hi; omega
    · by_cases e : i = p
      · subst e
        have := fG_le (bs := bs) (cs := cs) (p := i) (i := i) (by omega); omega
      · have := great_le2 (bs := bs) (cs := cs) (p := p + 1) (i := i) (by omega) hl'
        omega
  · refine le_mn (fG_ge fun i hi => great_le1 hi) ?_
    have : great bs cs p + (at_ cs p).1 ≤ great bs cs (p + 1) := great_ge (fun i hi => by
      by_cases e : i = p + 1
      · subst e
        have := great_le2 (bs := bs) (cs := cs) (p := p) (i := p + 1) (by omega) hp
        omega
      · have := great_le1 (bs := bs) (cs := cs) (p := p) (i := i) (by omega)
        omega) fun i hi hl' => by
        have := great_le2 (bs := bs) (cs := cs) (p := p) (i := i) (by omega) hl'
        omega
    omega
/-- pairs of places that bar nothing -/
def Due (bs cs : BS) : Prop := ∀ i j, i < j → j < bs.length → (at_ bs j).1 - (at_ bs i).2 ≤ pB cs j - pB cs i ∧ pA cs j - pA cs i ≤ (at_ bs j).2 - (at_ bs i).1
theorem due_can : Due bs cs ↔ Can bs cs := by
  have hl := hc.len
  have lohi : ∀ i, i < bs.length → (at_ bs i).1 ≤ (at_ bs i).2 := fun i hi => (h.ok _ (at_mem hi)).2.1
  constructor
  · intro d p hp
    -- each low one below each high one
    have key : ∀ i j, i < bs.length → j < bs.length → (i ≤ j → (at_ bs i).1 + (pA cs j - pA cs i) ≤ (at_ bs j).2) ∧ (j ≤ i → (at_ bs i).1 ≤ (at_ bs j).2 + (pB cs i - pB cs j)) := by
      intro i j hi hj
      constructor
      · intro hij
        by_cases e : i = j
        · subst e; have := lohi i hi; omega
        · have := (d i j (by omega) hj).2; omega
      · intro hij
        by_cases e : i = j
        · subst e; have := lohi i hi; omega
        · have := (d j i (by omega) hi).1; omega
    refine least_le (fun i hi => great_ge (fun j hj => ?_) fun j hj hlj => ?_) fun i hi hli => great_ge (fun j hj => ?_) fun j hj hlj => ?_
    · rcases Nat.le_total i j with z | z
      · have a := (key i j (by omega) (by omega)).1 z
        have b := pAB h hc (i := j) (j := p) hj (by omega)
        omega
      · have a := (key i j (by omega) (by omega)).2 z
        have b := pAB h hc (i := i) (j := p) hi (by omega)
        omega
    · have a := (key i j (by omega) hlj).1 (by omega)
      omega
    · have a := (key i j hli (by omega)).2 (by omega)
      omega
    · rcases Nat.le_total i j with z | z
      · have a := (key i j hli hlj).1 z
        have b := pAB h hc (i := p) (j := i) hi (by omega)
        omega
      · have a := (key i j hli hlj).2 z
        have b := pAB h hc (i := p) (j := j) hj (by omega)
        omega
  · intro c i j hij hj
    have z := c j hj
    have a1 := least_ge1 (bs := bs) (cs := cs) (p := j) (i := j) (by omega)
    have a2 := least_ge1 (bs := bs) (cs := cs) (p := j) (i := i) (by omega)
    have b1 := great_le1 (bs := bs) (cs := cs) (p := j) (i := j) (by omega)
    have b2 := great_le1 (bs := bs) (cs := cs) (p := j) (i := i) (by omega)
    omega
/-- the forward rows are not empty just so -/
theorem fwd_can : (∀ p, p < bs.length → fL bs cs p ≤ fG bs cs p) ↔ Can bs cs := by
  have hl := hc.len
  constructor
  · intro z
    rw [← due_can h hc]
    intro i j hij hj
    have := z j hj
    have a1 := fL_ge (bs := bs) (cs := cs) (p := j) (i := j) (by omega)
    have a2 := fL_ge (bs := bs) (cs := cs) (p := j) (i := i) (by omega)
    have b1 := fG_le (bs := bs) (cs := cs) (p := j) (i := j) (by omega)
    have b2 := fG_le (bs := bs) (cs := cs) (p := j) (i := i) (by omega)
    omega
  · intro c p hp
    have := c p hp
    have a : fL bs cs p ≤ least bs cs p := fL_le fun i hi => least_ge1 hi
    have b : great bs cs p ≤ fG bs cs p := fG_ge fun i hi => great_le1 hi
    omega
/-- steps of the least run -/
theorem least_step {p : Nat} (hp : p + 1 < bs.length) : (at_ cs p).1 ≤ least bs cs (p + 1) - least bs cs p ∧ least bs cs (p + 1) - least bs cs p ≤ (at_ cs p).2 := by
  have hl := hc.len
  have h1 : pA cs (p + 1) = pA cs p + (at_ cs p).1 := pa_succ (s := (·.1)) (by omega)
  have h2 : pB cs (p + 1) = pB cs p + (at_ cs p).2 := pa_succ (s := (·.2)) (by omega)
  have hab := (hc.ok _ (at_mem (bs := cs) (i := p) (by omega))).2.1
  constructor
  · have : least bs cs p ≤ least bs cs (p + 1) - (at_ cs p).1 := least_le (fun i hi => by
      have := least_ge1 (bs := bs) (cs := cs) (p := p + 1) (i := i) (by omega)
      omega) fun i hi hl' => by
        by_cases e : i = p
        · subst e
          have := least_ge1 (bs := bs) (cs := cs) (p := i + 1) (i := i) (by omega)
          omega
        · have := least_ge2 (bs := bs) (cs := cs) (p := p + 1) (i := i) (by omega) hl'
          omega
    omega
  · have m2 := le_mx2 (fL bs cs p) (least bs cs (p + 1) - (at_ cs p).2)
    rw [least_s h hc hp] at m2
    omega
theorem least_in (c : Can bs cs) {p : Nat} (hp : p < bs.length) : (at_ bs p).1 ≤ least bs cs p ∧ least bs cs p ≤ (at_ bs p).2 := by
  have := c p hp
  have a1 := least_ge1 (bs := bs) (cs := cs) (p := p) (i := p) (by omega)
  have b1 := great_le1 (bs := bs) (cs := cs) (p := p) (i := p) (by omega)
  omega
end
end Lx

end Part_k77M5

section Part_k77M6
set_option maxRecDepth 100000
set_option maxHeartbeats 1000000
/-! M6: the run told; the law's reaches and pairs. -/
namespace Lx
open Lv PySem
section
variable {bs cs : BS} (h : OkB bs) (hc : OkC bs cs)
include h hc
theorem whole (k : Nat) (u : U) (n : Int) : rn (k + 1) 6 [.int n] u = .ok (Q (n : Rat)) u := by
  rw [run_to (f := f6) (body := wholeB) (env := startE 1 [.int n]) rfl rfl rfl rfl]
  exact whole_run C _ n u
theorem caps_run_by (k : Nat) (u : U) : rn (k + 4) 21 [bnds bs, bnds cs] u = .ok (if (List.range bs.length).all fun p => decide (least bs cs p ≤ great bs cs p) then runD bs cs else .non) u := by
  have hn := h.nine
  have e0 := can_keep_caps_by h hc k u
  have F1 := lc_rng1 (P := rn (k + 3)) (elt := .call 6 (.cons (.call 18 (.cons (.loc 0) (.cons (.loc 1) (.cons (.loc 2) .nil)))) .nil)) (vs := [2]) (tg := .nm 2) (a := .bi .len (.cons (.v (.loc 0)) .nil)) (env := [.val (bnds bs), .val (bnds cs), .no]) (u := u) (n := bs.length)
    (g := fun p => Q ((least bs cs p : Int) : Rat)) (by dsimp! [b_len]) (by omega) fun p hp => by
      have hw : wipeS [.val (bnds bs), .val (bnds cs), .no] [2] = [.val (bnds bs), .val (bnds cs), .no] := rfl
      unfold lcB
      dsimp! [hw, least_at h hc (k + 1) u hp, whole h hc (k + 2) u]
  rw [run_to (f := f21) (body := b21) (env := [.val (bnds bs), .val (bnds cs), .no]) rfl rfl rfl rfl]
  unfold b21
  cases q : (List.range bs.length).all fun p => decide (least bs cs p ≤ great bs cs p) with
  | true =>
    rw [q] at e0
    dsimp! [e0, Bool.not_true, F1]
    rfl
  | false =>
    rw [q] at e0
    dsimp! [e0, Bool.not_false]
theorem can_keep_caps (k : Nat) (u : U) : rn (k + 8) 27 [bnds bs, bnds cs] u = .ok (.bl ((List.range bs.length).all fun p => decide (least bs cs p ≤ great bs cs p))) u := by
  have e1 := check_caps k u h hc
  have e2 := can_keep_caps_by h hc (k + 4) u
  rw [run_to (f := f27) (body := b27) (env := [.val (bnds bs), .val (bnds cs)]) rfl rfl rfl rfl]
  unfold b27
  dsimp! [e1, e2]
theorem caps_run (k : Nat) (u : U) : rn (k + 8) 28 [bnds bs, bnds cs] u = .ok (if (List.range bs.length).all fun p => decide (least bs cs p ≤ great bs cs p) then runD bs cs else .non) u := by
  have e1 := check_caps k u h hc
  have e2 := caps_run_by h hc (k + 3) u
  rw [run_to (f := f28) (body := b28) (env := [.val (bnds bs), .val (bnds cs)]) rfl rfl rfl rfl]
  unfold b28
  dsimp! [e1, e2]
/-! ### the law's reaches -/
/-- the rows behind i steps from the end -/
def rowsB (bs cs : BS) (i : Nat) : BS := (List.range bs.length).map fun p => if bs.length ≤ p + 1 + i then (least bs cs p, great bs cs p) else (fL bs cs p, fG bs cs p)
def rowsF (bs cs : BS) (i : Nat) : BS := (List.range (i + 1)).map fun p => (fL bs cs p, fG bs cs p)
def rows (bs cs : BS) : BS := (List.range bs.length).map fun p => (least bs cs p, great bs cs p)
end
theorem map_range_at {n i : Nat} {g : Nat → Int × Int} (h : i < n) : at_ ((List.range n).map g) i = g i := by
  rw [at_get (by simp; exact h), List.getElem_map, List.getElem_range]
theorem l_idx (u : U) {rs : BS} {i : Nat} (h : i < rs.length) : idxD u (.lst (rs.map pr)) (.int i) = some (pr (at_ rs i)) := b_idx u h
theorem l_idxL (u : U) {rs : BS} (h : 0 < rs.length) : idxD u (.lst (rs.map pr)) (.int (-1)) = some (pr (at_ rs (rs.length - 1))) := b_idxL u h
theorem fwd_none {bs cs : BS} (h : OkB bs) (hc : OkC bs cs) {i : Nat} (hi : i < bs.length) (hgt : fG bs cs i < fL bs cs i) : ¬ Can bs cs := fun c => by
  have := (fwd_can h hc).mpr c i hi
  omega
theorem at_first {bs : BS} {d : D} (u : U) (h : 0 < bs.length) : idxD u (bnds bs) (.int 0) = some (pr (at_ bs 0)) := b_idx0 u h
theorem rev_range (n : Nat) : ((List.range n).map fun (i : Nat) => D.int i).reverse = (List.range n).map fun (i : Nat) => D.int ((n - 1 - i : Nat) : Int) := by
  rw [← List.map_reverse]
  apply List.ext_getElem
  · simp
  · intro i h1 h2
    simp at h1 h2 ⊢
theorem set_map_range {n j : Nat} {g : Nat → Int × Int} {x : Int × Int} : (((List.range n).map g).map pr).set j (pr x) = ((List.range n).map fun p => if p = j then x else g p).map pr := by
  apply List.ext_getElem
  · simp
  · intro i h1 h2
    rw [List.getElem_set]
    simp only [List.getElem_map, List.getElem_range]
    by_cases e : j = i
    · subst e; rw [if_pos rfl, if_pos rfl]
    · rw [if_neg e, if_neg (Ne.symm e)]
theorem max2_mx (u : U) (a b : Int) : Bi.run u .max2 [.int a, .int b] = some (.int (mx a b)) := nr rfl
theorem min2_mn (u : U) (a b : Int) : Bi.run u .min2 [.int a, .int b] = some (.int (mn a b)) := nr rfl
theorem rowsF_len (bs cs : BS) (i : Nat) : (rowsF bs cs i).length = i + 1 := by unfold rowsF; simp
theorem rowsF_at {bs cs : BS} {i p : Nat} (h : p ≤ i) : at_ (rowsF bs cs i) p = (fL bs cs p, fG bs cs p) := map_range_at (by omega)
theorem rowsF_s (bs cs : BS) (i : Nat) : (rowsF bs cs i).map pr ++ [.tup [.int (fL bs cs (i + 1)), .int (fG bs cs (i + 1))]] = (rowsF bs cs (i + 1)).map pr := by
  unfold rowsF
  rw [List.range_succ (n := i + 1), List.map_append, List.map_append]
  rfl
theorem rowsB_len (bs cs : BS) (i : Nat) : (rowsB bs cs i).length = bs.length := by unfold rowsB; simp
theorem app_own {env : Lv.Env} {i : Nat} {ds : List D} (h : getS env i = .own ds) (hl : ds.length < line) (d : D) (u : U) : appD i env d u = .ok (.nxt (setS env i (.own (ds ++ [d])))) u := by
  unfold appD
  rw [h]
  show (if ds.length < line then ret (.nxt (setS env i (.own (ds ++ [d])))) else stuck : M Out) u = _
  rw [if_pos hl]
theorem set_own {env : Lv.Env} {i : Nat} {ds : List D} {j : Nat} (h : getS env i = .own ds) (hj : j < ds.length) (d : D) (u : U) : setD i d env (.int (j : Int)) u = .ok (setS env i (.own (ds.set j d))) u := by
  have e : ixN ds.length (j : Int) = some j := by
    unfold ixN
    rw [if_pos (by omega), if_pos (by omega)]
    rfl
  unfold setD
  rw [h]
  show (match ixN ds.length (j : Int) with | some j => ret (setS env i (.own (ds.set j d))) | none => stuck : M Lv.Env) u = _
  rw [e]
theorem law_reaches {bs cs : BS} (h : OkB bs) (hc : OkC bs cs) (k : Nat) (u : U) : Wp (rn (k + 1) 44 [bnds bs, bnds cs] u) fun r u' => u' = u ∧ ((Can bs cs ∧ r = .lst ((rows bs cs).map pr)) ∨ (¬ Can bs cs ∧ r = .non)) := by
  have hl := hc.len
  have hn := h.nine
  have h2 := h.two
  rw [run_to (f := f44) (body := b44) (env := [.val (bnds bs), .val (bnds cs), .no, .no, .no, .no]) rfl rfl rfl rfl]
  unfold b44
  dsimp! [b_idx0 u (show 0 < bs.length by omega)]
  rw [S_for]
  dsimp! [b_len, rng2_nat (i := 1) (j := bs.length) (by omega) (by omega), Res.bind_assoc']
  have hr2 : rng2D (.int 1) (.int (bs.length : Int)) = some ((List.range (bs.length - 1)).map fun (t : Nat) => D.int ((1 + t : Nat) : Int)) := rng2_nat (i := 1) (j := bs.length) (by omega) (by omega)
  dsimp! [hr2]
  refine Wp.bind ?_
  refine forRun_wp (fun i env u' => u' = u ∧ i < bs.length ∧ (∃ a b c, env = [.val (bnds bs), .val (bnds cs), .own ((rowsF bs cs i).map pr), a, b, c]) ∧ ∀ p, p ≤ i → fL bs cs p ≤ fG bs cs p) ?_ ?_ ?_
  · refine ⟨rfl, by omega, ⟨.no, .no, .no, ?_⟩, fun p hp => ?_⟩
    · have e : (rowsF bs cs 0).map pr = [pr (at_ bs 0)] := by
        have z : (rowsF bs cs 0).map pr = [pr (fL bs cs 0, fG bs cs 0)] := rfl
        rw [z, fL_0, fG_0]
      rw [e]
    · obtain rfl : p = 0 := by omega
      rw [fL_0, fG_0]
      have := (h.ok _ (at_mem (bs := bs) (i := 0) (by omega))).2.1
      omega
  · intro i d env u' hd ⟨hu, hi, ⟨a, b, c, he⟩, hle⟩
    subst hu he
    rw [List.getElem?_map] at hd
    obtain ⟨t, ht, rfl⟩ := Option.map_eq_some_iff.mp hd
    obtain ⟨hti, rfl⟩ : i < bs.length - 1 ∧ t = i := by
      rw [List.getElem?_eq_some_iff] at ht
      obtain ⟨q1, q2⟩ := ht
      rw [List.getElem_range] at q2
      exact ⟨by simpa using q1, q2.symm⟩
    have e1 := b_idx u' (bs := bs) (i := 1 + t) (by omega)
    have e2 := l_idxL u' (rs := rowsF bs cs t) (by rw [rowsF_len]; omega)
    rw [rowsF_len, Nat.add_sub_cancel, rowsF_at (Nat.le_refl t)] at e2
    have e3 := b_idx u' (bs := cs) (i := t) (by omega)
    have hs : ((1 + t : Nat) : Int) - 1 = (t : Int) := by omega
    have m1 := fL_s (bs := bs) (cs := cs) (k := t) (by omega)
    have m2 := fG_s (bs := bs) (cs := cs) (k := t) (by omega)
    rw [Nat.add_comm t 1] at m1 m2
    unfold forB
    dsimp! [e1, e2, hs, e3, pr0, pr1, max2_mx, min2_mn, m1, m2]
    by_cases hgt : fG bs cs (1 + t) < fL bs cs (1 + t)
    · dsimp! [hgt]
      exact ⟨rfl, .inr ⟨fwd_none h hc (by omega) hgt, rfl⟩⟩
    · have ha := app_own (env := [.val (bnds bs), .val (bnds cs), .own ((rowsF bs cs t).map pr), .val (.int ((1 + t : Nat) : Int)), .val (.int (fL bs cs (1 + t))), .val (.int (fG bs cs (1 + t)))]) (i := 2) (ds := (rowsF bs cs t).map pr) rfl (by rw [List.length_map, rowsF_len]; unfold line; omega) (.tup [.int (fL bs cs (1 + t)), .int (fG bs cs (1 + t))]) u'
      dsimp! [hgt, ha]
      refine ⟨rfl, by omega, ⟨.val (.int ((1 + t : Nat) : Int)), .val (.int (fL bs cs (1 + t))), .val (.int (fG bs cs (1 + t))), ?_⟩, fun p hp => ?_⟩
      · have z := rowsF_s bs cs t
        rw [Nat.add_comm t 1] at z ⊢
        rw [z]
      · by_cases e : p = 1 + t
        · subst e; omega
        · exact hle p (by omega)
  · intro env u' ⟨hu, hi, ⟨a, b, c, he⟩, hle⟩
    subst hu he
    rw [List.length_map, List.length_range] at hi hle
    have hcan : Can bs cs := (fwd_can h hc).mp fun p hp => hle p (by omega)
    rw [List.length_map, List.length_range]
    -- from the end
    have hF : denF C (rn k) (.rev (.v (.fr (.lstR (.rng1 (.bin .sub (.bi .len (.cons (.v (.loc 0)) .nil)) (.cst (.int 1)))))))) [.val (bnds bs), .val (bnds cs), .own ((rowsF bs cs (bs.length - 1)).map pr), a, b, c] u' = .ok ((List.range (bs.length - 1)).map fun (i : Nat) => D.int ((bs.length - 1 - 1 - i : Nat) : Int)) u' := by
      have e1 : (bs.length : Int) - 1 = ((bs.length - 1 : Nat) : Int) := by omega
      have e2 : ((List.range (bs.length - 1)).map fun (i : Nat) => D.int i).length ≤ line := by rw [List.length_map, List.length_range]; unfold line; omega
      rw [F_rev, O_v, E_fr, F_lstR, I_rng1, E_bin, E_bi]
      dsimp! [b_len, e1, rng1_nat (n := bs.length - 1) (by omega)]
      rw [if_pos e2]
      show Res.ok (((List.range (bs.length - 1)).map fun (i : Nat) => D.int i).reverse) u' = _
      rw [rev_range]
    have hI : itsOf (.lst ((List.range (bs.length - 1)).map fun (i : Nat) => D.int ((bs.length - 1 - 1 - i : Nat) : Int))) = some ((List.range (bs.length - 1)).map fun (i : Nat) => D.int ((bs.length - 1 - 1 - i : Nat) : Int)) := rfl
    dsimp! []
    rw [S_for, I_seq, O_v, E_fr, hF]
    dsimp! [hI]
    rw [Res.bind_assoc']
    refine Wp.bind ?_
    refine forRun_wp (fun i env u2 => u2 = u' ∧ i < bs.length ∧ ∃ a b c, env = [.val (bnds bs), .val (bnds cs), .own ((rowsB bs cs i).map pr), a, b, c]) ?_ ?_ ?_
    · refine ⟨rfl, by omega, a, b, c, ?_⟩
      have e : rowsF bs cs (bs.length - 1) = rowsB bs cs 0 := by
        unfold rowsF rowsB
        rw [show bs.length - 1 + 1 = bs.length by omega]
        refine List.map_congr_left fun p hp => ?_
        have := List.mem_range.mp hp
        by_cases e : p = bs.length - 1
        · rw [if_pos (by omega), e, least_last h hc, great_last h hc]
        · rw [if_neg (by omega)]
      rw [e]
    · intro i d env u2 hd ⟨hu, hi, a, b, c, he⟩
      subst hu he
      rw [List.getElem?_map] at hd
      obtain ⟨t, ht, rfl⟩ := Option.map_eq_some_iff.mp hd
      obtain ⟨hti, rfl⟩ : i < bs.length - 1 ∧ t = i := by
        rw [List.getElem?_eq_some_iff] at ht
        obtain ⟨q1, q2⟩ := ht
        rw [List.getElem_range] at q2
        exact ⟨by simpa using q1, q2.symm⟩
      obtain ⟨p, hp⟩ : ∃ p, p = bs.length - 1 - 1 - t := ⟨_, rfl⟩
      rw [← hp]
      have e1 := l_idx u2 (rs := rowsB bs cs t) (i := p) (by rw [rowsB_len]; omega)
      have e2 := l_idx u2 (rs := rowsB bs cs t) (i := p + 1) (by rw [rowsB_len]; omega)
      have e3 := b_idx u2 (bs := cs) (i := p) (by omega)
      have a1 : at_ (rowsB bs cs t) p = (fL bs cs p, fG bs cs p) := by
        unfold rowsB
        rw [map_range_at (by omega), if_neg (by omega)]
      have a2 : at_ (rowsB bs cs t) (p + 1) = (least bs cs (p + 1), great bs cs (p + 1)) := by
        unfold rowsB
        rw [map_range_at (by omega), if_pos (by omega)]
      rw [a1] at e1
      rw [a2] at e2
      have hs : (p : Int) + 1 = ((p + 1 : Nat) : Int) := by omega
      have hset := set_own (env := [.val (bnds bs), .val (bnds cs), .own ((rowsB bs cs t).map pr), .val (.int (p : Int)), b, c]) (i := 2) (ds := (rowsB bs cs t).map pr) (j := p) rfl (by rw [List.length_map, rowsB_len]; omega) (.tup [.int (least bs cs p), .int (great bs cs p)]) u2
      unfold forB
      dsimp! [e1, e2, hs, e3, pr0, pr1, max2_mx, min2_mn, least_s h hc (p := p) (by omega), great_s h hc (p := p) (by omega), hset]
      refine ⟨rfl, by omega, .val (.int (p : Int)), b, c, ?_⟩
      have z : ((rowsB bs cs t).map pr).set p (.tup [.int (least bs cs p), .int (great bs cs p)]) = (rowsB bs cs (t + 1)).map pr := by
        have z0 := set_map_range (n := bs.length) (j := p) (g := fun p => if bs.length ≤ p + 1 + t then (least bs cs p, great bs cs p) else (fL bs cs p, fG bs cs p)) (x := (least bs cs p, great bs cs p))
        unfold rowsB
        refine z0.trans ?_
        refine congrArg (List.map pr) (List.map_congr_left fun q hq => ?_)
        have := List.mem_range.mp hq
        by_cases e : q = p
        · rw [if_pos e, if_pos (by omega), e]
        · rw [if_neg e]
          by_cases e2 : bs.length ≤ q + 1 + t
          · rw [if_pos e2, if_pos (by omega)]
          · rw [if_neg e2, if_neg (by omega)]
      rw [z]
    · intro env u2 ⟨hu, hi, a, b, c, he⟩
      subst hu he
      rw [List.length_map, List.length_range]
      have e : rowsB bs cs (bs.length - 1) = rows bs cs := by
        unfold rowsB rows
        refine List.map_congr_left fun p hp => ?_
        have := List.mem_range.mp hp
        rw [if_pos (by omega)]
      have hf : frzD [.val (bnds bs), .val (bnds cs), .own ((rows bs cs).map pr), a, b, c] 2 = [.val (bnds bs), .val (bnds cs), .val (.lst ((rows bs cs).map pr)), a, b, c] := rfl
      rw [e]
      dsimp! [hf]
      exact ⟨rfl, .inl ⟨hcan, rfl⟩⟩
end Lx

end Part_k77M6

section Part_k77V1
set_option maxRecDepth 100000
set_option maxHeartbeats 1000000
/-! V1: fractions, draws. -/
namespace Lx
open Lv PySem
theorem fracP (k : Nat) : FracP (rn (k + 1)) 4 := by
  rw [rn_eq]
  exact fracP_frac (k := k) (f := 4) rfl
theorem r_whole (k : Nat) (u : U) (n : Int) : rn (k + 1) 6 [.int n] u = .ok (Q (n : Rat)) u := by
  rw [run_to (f := f6) (body := wholeB) (env := startE 1 [.int n]) rfl rfl rfl rfl]
  exact whole_run C _ n u
theorem r_sum (k : Nat) (u : U) {a b : Rat} {m : Nat} (ha : Qs m a) (hb : Qs m b) (hm : m ≤ 3000) : rn (k + 2) 7 [Q a, Q b] u = .ok (Q (a + b)) u := by
  rw [run_to (f := f7) (body := sumB 4) (env := startE 2 [Q a, Q b]) rfl rfl rfl rfl]
  exact sum_run C _ u (fracP k) ha hb hm
theorem r_times (k : Nat) (u : U) {a b : Rat} {m : Nat} (ha : Qs m a) (hb : Qs m b) (hm : m ≤ 3000) : rn (k + 2) 8 [Q a, Q b] u = .ok (Q (a * b)) u := by
  rw [run_to (f := f8) (body := timesB 4) (env := startE 2 [Q a, Q b]) rfl rfl rfl rfl]
  exact times_run C _ u (fracP k) ha hb hm
theorem r_is_less (k : Nat) (u : U) {a b : Rat} {m : Nat} (ha : Qs m a) (hb : Qs m b) (hm : m ≤ 4000) : rn (k + 1) 9 [Q a, Q b] u = .ok (.bl (decide (a < b))) u := by
  rw [run_to (f := f9) (body := belowB) (env := startE 2 [Q a, Q b]) rfl rfl rfl rfl]
  exact below_run C _ u ha hb hm
def Bd (n : Int) : Prop := -9999 ≤ n ∧ n ≤ 9999
theorem Bd.sm {n : Int} (h : Bd n) : Sm 20 n := by
  unfold Bd at h
  unfold Sm
  have : (2 : Nat) ^ 20 = 1048576 := by decide
  omega
theorem Bd.qs {n : Int} (h : Bd n) : Qs 20 (n : Rat) := Qs.int h.sm (by decide)
theorem sm_of {n : Int} {k : Nat} (h : n.natAbs < 2 ^ k) : Sm k n := h
theorem sm_lit {n : Int} {k b : Nat} (h : n.natAbs ≤ b) (h2 : b < 2 ^ k) : Sm k n := Nat.lt_of_le_of_lt h h2
theorem takeP (k : Nat) : TakeP (rn (k + 1)) 38 := by
  rw [rn_eq]
  exact takeP_of (k := k) (f := 38) rfl
theorem law_take (k : Nat) {n : Nat} {u : U} {c : Nat} {m : Int} (h : Wl (n + 1) u c) (hm : 0 < m) (hm2 : m < 1073741824) : ∃ i u', rn (k + 1) 38 [.cell c, .int m] u = .ok (.int i) u' ∧ 0 ≤ i ∧ i < m ∧ Wl n u' c := by
  obtain ⟨r, u', e, hq⟩ := (takeP k n u c m h hm hm2).of
  obtain ⟨i, hr, h1, h2, h3⟩ := hq
  subst hr
  exact ⟨i, u', e, h1, h2, h3⟩
theorem take_wp (k : Nat) {n : Nat} {u : U} {c : Nat} {m : Int} {R : D → U → Prop} (h : Wl (n + 1) u c) (hm : 0 < m) (hm2 : m < 1073741824) (q : ∀ (i : Nat) u', (i : Int) < m → Wl n u' c → R (.int i) u') : Wp (rn (k + 1) 38 [.cell c, .int m] u) R := by
  obtain ⟨i, u', e, h1, h2, h3⟩ := law_take k h hm hm2
  rw [e]
  obtain ⟨j, rfl⟩ : ∃ j : Nat, i = j := ⟨i.toNat, by omega⟩
  exact q j u' h2 h3
theorem law_of (k : Nat) {n : Nat} {u : U} {c : Nat} {ds : List D} (h : Wl (n + 1) u c) (hm : 0 < ds.length) (hm2 : ds.length < 1000) : ∃ r u', rn (k + 2) 39 [.cell c, .tup ds] u = .ok r u' ∧ r ∈ ds ∧ Wl n u' c := by
  have z : Wp (rn (k + 2) 39 [.cell c, .tup ds] u) fun r u' => r ∈ ds ∧ Wl n u' c := by
    rw [run_to (f := f39) (body := ofB 38) (env := startE 2 [.cell c, .tup ds]) rfl rfl rfl rfl]
    exact of_run C _ (takeP k) h hm hm2
  obtain ⟨r, u', e, hq⟩ := z.of
  exact ⟨r, u', e, hq.1, hq.2⟩
theorem of_wp (k : Nat) {n : Nat} {u : U} {c : Nat} {ds : List D} {R : D → U → Prop} (h : Wl (n + 1) u c) (hm : 0 < ds.length) (hm2 : ds.length < 1000) (q : ∀ r u', r ∈ ds → Wl n u' c → R r u') : Wp (rn (k + 2) 39 [.cell c, .tup ds] u) R := by
  obtain ⟨r, u', e, h1, h2⟩ := law_of k h hm hm2
  rw [e]
  exact q r u' h1 h2
theorem law_well (k : Nat) (u : U) {ns : List Int} {lap : Nat} (hn : ns.length ≤ 1000) (hl : lap < 1000) : ∃ u' c, rn (k + 1) 37 [.scr ns, .int (lap : Int)] u = .ok (.cell c) u' ∧ Wl 1000000 u' c := by
  have z : Wp (rn (k + 1) 37 [.scr ns, .int (lap : Int)] u) fun r u' => r = .cell u.length ∧ Wl 1000000 u' u.length := by
    rw [run_to (f := f37) (body := wellB) (env := startE 5 [.scr ns, .int (lap : Int)]) rfl rfl rfl rfl]
    exact well_run C _ u hn hl
  obtain ⟨r, u', e, hq⟩ := z.of
  obtain ⟨h1, h2⟩ := hq
  subst h1
  exact ⟨u', _, e, h2⟩
theorem r_law_below (k : Nat) (u : U) {a b : Rat} {m : Nat} (ha : Qs m a) (hb : Qs m b) (hm : m ≤ 4000) : rn (k + 1) 41 [Q a, Q b] u = .ok (.bl (decide (a < b))) u := by
  rw [run_to (f := f41) (body := belowB) (env := startE 2 [Q a, Q b]) rfl rfl rfl rfl]
  exact below_run C _ u ha hb hm
theorem law_same (k : Nat) (u : U) {d : D} {n : Nat} (h : Pn n d) : rn (k + n + 1) 40 [d, d] u = .ok (.bl true) u := by
  rw [rn_eq]
  exact same_run (f := 40) rfl h k u
end Lx

end Part_k77V1

section Part_k77B1
set_option maxRecDepth 100000
set_option maxHeartbeats 2000000
/-! M11: drawn bounds. -/
namespace Lx
open Lv PySem
theorem in_two (p a b : Int) : CmpO.run .in_ (.int p) (.tup [.int a, .int b]) = some (a == p || b == p) := by
  show some (([D.int a, D.int b]).any fun y => eqFlat y (.int p)) = _
  simp [eqFlat]
theorem law_bounds (k : Nat) {n : Nat} {u : U} {c : Nat} {mm : Nat} (hmm : 2 ≤ mm ∧ mm ≤ 9) (h : Wl (n + 30) u c) : ∃ bs u', rn (k + 3) 42 [.cell c, .int (mm : Int)] u = .ok (bnds bs) u' ∧ OkB bs ∧ bs.length ≤ mm ∧ Wl n u' c := by
  have key : Wp (rn (k + 3) 42 [.cell c, .int (mm : Int)] u) fun r u' => ∃ bs, r = bnds bs ∧ OkB bs ∧ bs.length ≤ mm ∧ Wl n u' c := by
    obtain ⟨g0, u1, e1, hg, w1⟩ := law_of k (n := n + 29) (ds := [.int 2, .int 6, .int 40, .int 9999]) h (by decide) (by decide)
    obtain ⟨g, rfl, hg1, hg2⟩ : ∃ g : Int, g0 = .int g ∧ 0 < g ∧ g ≤ 9999 := by
      simp only [List.mem_cons, List.not_mem_nil, or_false] at hg
      rcases hg with rfl | rfl | rfl | rfl
      · exact ⟨2, rfl, by decide, by decide⟩
      · exact ⟨6, rfl, by decide, by decide⟩
      · exact ⟨40, rfl, by decide, by decide⟩
      · exact ⟨9999, rfl, by decide, by decide⟩
    obtain ⟨m0, u2, e2, hm1, hm2, w2⟩ := law_take (k + 1) (n := n + 28) (m := (mm : Int) - 1) w1 (by omega) (by omega)
    obtain ⟨m, rfl⟩ : ∃ m : Nat, m0 = m := ⟨m0.toNat, by omega⟩
    have ecast : (2 : Int) + (m : Int) = ((m + 2 : Nat) : Int) := by omega
    rw [run_to (f := f42) (body := b42) (env := [.val (.cell c), .val (.int (mm : Int)), .no, .no, .no, .no, .no, .no]) rfl rfl rfl rfl]
    unfold b42
    dsimp! [e1, e2, ecast]
    rw [S_for]
    dsimp! [rng1_nat (n := m + 2) (by omega)]
    rw [Res.bind_assoc']
    refine Wp.bind ?_
    refine forRun_any (fun i env u' => i ≤ m + 2 ∧ Wl (n + 28 - 2 * i) u' c ∧ ∃ rs x3 x6 x7, env = [.val (.cell c), .val (.int (mm : Int)), .val (.int ((m + 2 : Nat) : Int)), x3, .val (.int g), .own (rs.map pr), x6, x7] ∧ rs.length = i ∧ (∀ p ∈ rs, OkP p) ∧ ∀ j, j < i → (j = 0 ∨ j = m + 1) → (at_ rs j).1 = (at_ rs j).2) ⟨by omega, w2, [], _, _, _, rfl, rfl, (by simp), fun j hj => by omega⟩ ?_ ?_
    · intro i env u' hi ⟨hle, w, rs, x3, x6, x7, he, hl, hok, heq⟩
      subst he
      obtain ⟨n1, hn1⟩ : ∃ n1, n + 28 - 2 * i = n1 + 1 + 1 := ⟨n + 28 - 2 * i - 2, by omega⟩
      rw [hn1] at w
      have mg : mulOk 2 g = true := mulOk_of (show Sm 20 2 by unfold Sm; decide) (Bd.sm (n := g) ⟨by omega, by omega⟩) (by decide)
      obtain ⟨l0, u3, e3, hl1, hl2, w3⟩ := law_take (k + 1) (n := n1 + 1) (m := 2 * g + 1) w (by omega) (by omega)
      have em : ((m + 2 : Nat) : Int) - 1 = ((m + 1 : Nat) : Int) := by omega
      have last : ∀ (wd : Int) (u4 : U), 0 ≤ wd → wd ≤ g → ((i = 0 ∨ i = m + 1) → wd = 0) → Wl n1 u4 c → ∃ e, appD 5 [.val (.cell c), .val (.int (mm : Int)), .val (.int ((m + 2 : Nat) : Int)), .val (.int (i : Int)), .val (.int g), .own (rs.map pr), .val (.int (l0 - g)), .val (.int wd)] (.tup [.int (l0 - g), .int (mn 9999 (l0 - g + wd))]) u4 = .ok (.nxt e) u4 ∧
          (i + 1 ≤ m + 2 ∧ Wl (n + 28 - 2 * (i + 1)) u4 c ∧ ∃ rs x3 x6 x7, e = [.val (.cell c), .val (.int (mm : Int)), .val (.int ((m + 2 : Nat) : Int)), x3, .val (.int g), .own (rs.map pr), x6, x7] ∧ rs.length = i + 1 ∧ (∀ p ∈ rs, OkP p) ∧ ∀ j, j < i + 1 → (j = 0 ∨ j = m + 1) → (at_ rs j).1 = (at_ rs j).2) := by
        intro wd u4 h1 h2 h3 w4
        refine ⟨_, app_own (ds := rs.map pr) rfl (by rw [List.length_map]; unfold line; omega) _ _, ?_⟩
        have hmn : mn 9999 (l0 - g + wd) ≤ 9999 := mn_le1 _ _
        have hmn2 : l0 - g ≤ mn 9999 (l0 - g + wd) := le_mn (by omega) (by omega)
        refine ⟨by omega, by rw [show n + 28 - 2 * (i + 1) = n1 by omega]; exact w4, rs ++ [(l0 - g, mn 9999 (l0 - g + wd))], _, _, _, by rw [List.map_append]; rfl, by rw [List.length_append, hl]; rfl, fun p hp => ?_, fun j hj hz => ?_⟩
        · rcases List.mem_append.mp hp with hp | hp
          · exact hok p hp
          · rw [List.mem_singleton.mp hp]; exact ⟨by omega, hmn2, hmn⟩
        · by_cases ej : j = i
          · subst ej
            have e0 : at_ (rs ++ [(l0 - g, mn 9999 (l0 - g + wd))]) j = (l0 - g, mn 9999 (l0 - g + wd)) := by
              rw [at_get (by rw [List.length_append, hl]; exact Nat.lt_succ_self _), List.getElem_append_right (by omega)]
              simp [hl]
            rw [e0]
            have := h3 hz
            subst this
            show l0 - g = mn 9999 (l0 - g + 0)
            unfold mn
            rw [Int.add_zero]
            split <;> omega
          · have e0 : at_ (rs ++ [(l0 - g, mn 9999 (l0 - g + wd))]) j = at_ rs j := by
              rw [at_get (by rw [List.length_append, hl]; exact hj), at_get (by omega), List.getElem_append_left (by omega)]
            rw [e0]
            exact heq j (by omega) hz
      unfold forB
      by_cases c0 : i = 0 ∨ i = m + 1
      · have ein : CmpO.run .in_ (.int (i : Int)) (.tup [.int 0, .int ((m + 1 : Nat) : Int)]) = some true := by
          rw [in_two]
          rcases c0 with c0 | c0 <;> subst c0 <;> simp
        dsimp! [mul_ii mg, e3, em, ein, min2_mn]
        obtain ⟨e, eo, hq⟩ := last 0 u3 (by omega) (by omega) (fun _ => rfl) (w3.mono (by omega))
        dsimp! [eo]
        exact hq
      · have ein : CmpO.run .in_ (.int (i : Int)) (.tup [.int 0, .int ((m + 1 : Nat) : Int)]) = some false := by
          rw [in_two]
          have q1 : ¬ (0 : Int) = (i : Int) := by omega
          have q2 : ¬ ((m + 1 : Nat) : Int) = (i : Int) := by omega
          rw [beq_eq_false_iff_ne.mpr q1, beq_eq_false_iff_ne.mpr q2]
          rfl
        obtain ⟨wd, u4, e4, hw1, hw2, w4⟩ := law_take (k + 1) (n := n1) (m := g + 1) w3 (by omega) (by omega)
        obtain ⟨e, eo, hq⟩ := last wd u4 hw1 (by omega) (fun z => absurd z c0) w4
        dsimp! [mul_ii mg, e3, em, ein, min2_mn, e4, eo]
        exact hq
    · intro env u' ⟨hle, w, rs, x3, x6, x7, he, hl, hok, heq⟩
      subst he
      have eb : Bi.run u' .tuple [.lst (rs.map pr)] = some (bnds rs) := rfl
      dsimp! [eb]
      refine ⟨rs, rfl, ⟨by omega, by omega, hok, heq 0 (by omega) (.inl rfl), ?_⟩, by omega, w.mono (by omega)⟩
      rw [hl]
      exact heq (m + 2 - 1) (by omega) (.inr (by omega))
  obtain ⟨r, u', e, hq⟩ := key.of
  obtain ⟨bs, hr, hb, hl, hw⟩ := hq
  subst hr
  exact ⟨bs, u', e, hb, hl, hw⟩
end Lx

end Part_k77B1

section Part_k77M12
set_option maxRecDepth 100000
set_option maxHeartbeats 2000000
/-! M12: drawn caps. -/
namespace Lx
open Lv PySem
theorem T_pair {P : Phi} (i j : Nat) (p : Int × Int) (env : Lv.Env) (u : U) : denT C P (.tp (.cons (.nm i) (.cons (.nm j) .nil))) (pr p) env u = .ok (setS (setS env i (.val (.int p.1))) j (.val (.int p.2))) u := rfl
theorem okP_cap (b e : Int) : OkP (mx (0 - 9999) (mn 9999 b), mx (0 - 9999) (mn 9999 (mx b e))) := by
  unfold OkP mx mn
  refine ⟨?_, ?_, ?_⟩ <;> (dsimp only; repeat' split) <;> omega
theorem law_caps (k : Nat) {n : Nat} {u : U} {c : Nat} {bs : BS} (hb : OkB bs) (h : Wl (n + 60) u c) : ∃ cs u', rn (k + 3) 43 [.cell c, bnds bs] u = .ok (bnds cs) u' ∧ OkC bs cs ∧ Wl n u' c := by
  have h9 := hb.nine
  have h2 := hb.two
  have key : Wp (rn (k + 3) 43 [.cell c, bnds bs] u) fun r u' => ∃ cs, r = bnds cs ∧ OkC bs cs ∧ Wl n u' c := by
    have i0 := b_idx0 u (bs := bs) (by omega)
    rw [run_to (f := f43) (body := b43) (env := [.val (.cell c), .val (bnds bs), .no, .no, .no, .no, .no, .no, .no, .no, .no]) rfl rfl rfl rfl]
    unfold b43
    dsimp! [i0, pr0]
    rw [S_for]
    have hr2 : rng2D (.int 1) (.int (bs.length : Int)) = some ((List.range (bs.length - 1)).map fun (t : Nat) => D.int ((1 + t : Nat) : Int)) := rng2_nat (i := 1) (j := bs.length) (by omega) (by omega)
    dsimp! [b_len, hr2]
    rw [Res.bind_assoc']
    refine Wp.bind ?_
    refine forRun_any (fun i env u' => i ≤ bs.length - 1 ∧ Wl (n + 60 - 5 * i) u' c ∧ ∃ (rs : BS) (x2 : Sl) (here : Int) (x5 x6 x7 x8 x9 x10 : Sl), env = [.val (.cell c), .val (bnds bs), x2, .val (.int here), .own (rs.map pr), x5, x6, x7, x8, x9, x10] ∧ rs.length = i ∧ (∀ p ∈ rs, OkP p)) ⟨by omega, h, [], _, _, _, _, _, _, _, _, rfl, rfl, by simp⟩ ?_ ?_
    · intro i env u' hi ⟨hle, w, rs, x2, here, x5, x6, x7, x8, x9, x10, he, hl, hok⟩
      subst he
      obtain ⟨p, hp⟩ : ∃ p, p = 1 + i := ⟨_, rfl⟩
      rw [← hp]
      obtain ⟨n1, hn1⟩ : ∃ n1, n + 60 - 5 * i = n1 + 1 + 1 + 1 + 1 + 1 := ⟨n + 60 - 5 * i - 5, by omega⟩
      rw [hn1] at w
      have i1 := b_idx u' (bs := bs) (i := p) (by omega)
      have okp := hb.ok _ (at_mem (bs := bs) (i := p) (by omega))
      obtain ⟨q1, q2, q3⟩ := okp
      obtain ⟨t0, u1, e1, _, _, w1⟩ := law_take (k + 1) (m := (at_ bs p).2 - (at_ bs p).1 + 1) w (by omega) (by omega)
      obtain ⟨g0, u2, e2, hg, w2⟩ := law_of k (ds := [.int 0, .int 1, .int 3, .int 50]) w1 (by decide) (by decide)
      obtain ⟨g, rfl, hg1, hg2⟩ : ∃ g : Int, g0 = .int g ∧ 0 ≤ g ∧ g ≤ 50 := by
        simp only [List.mem_cons, List.not_mem_nil, or_false] at hg
        rcases hg with rfl | rfl | rfl | rfl
        · exact ⟨0, rfl, by decide, by decide⟩
        · exact ⟨1, rfl, by decide, by decide⟩
        · exact ⟨3, rfl, by decide, by decide⟩
        · exact ⟨50, rfl, by decide, by decide⟩
      obtain ⟨m0, u3, e3, _, _, w3⟩ := law_take (k + 1) (m := 8) w2 (by decide) (by decide)
      have last : ∀ (b : Int) (u4 : U), Wl (n1 + 1) u4 c → ∃ x u5, rn (k + 2) 38 [.cell c, .int (g + 1)] u4 = .ok (.int x) u5 ∧ ∃ e, appD 4 [.val (.cell c), .val (bnds bs), .val (.int (p : Int)), .val (.int here), .own (rs.map pr), .val (.int ((at_ bs p).1 + t0)), .val (.int b), .val (.int (at_ bs p).1), .val (.int (at_ bs p).2), .val (.int ((at_ bs p).1 + t0 - here)), .val (.int g)] (.tup [.int (mx (0 - 9999) (mn 9999 b)), .int (mx (0 - 9999) (mn 9999 (mx b ((at_ bs p).1 + t0 - here + x))))]) u5 = .ok (.nxt e) u5 ∧
          getS e 5 = .val (.int ((at_ bs p).1 + t0)) ∧ (i + 1 ≤ bs.length - 1 ∧ Wl (n + 60 - 5 * (i + 1)) u5 c ∧ ∃ (rs : BS) (x2 : Sl) (here : Int) (x5 x6 x7 x8 x9 x10 : Sl), setS e 3 (.val (.int ((at_ bs p).1 + t0))) = [.val (.cell c), .val (bnds bs), x2, .val (.int here), .own (rs.map pr), x5, x6, x7, x8, x9, x10] ∧ rs.length = i + 1 ∧ (∀ p ∈ rs, OkP p)) := by
        intro b u4 w4
        obtain ⟨x, u5, e5, _, _, w5⟩ := law_take (k + 1) (m := g + 1) w4 (by omega) (by omega)
        refine ⟨x, u5, e5, _, app_own (ds := rs.map pr) rfl (by rw [List.length_map]; unfold line; omega) _ _, rfl, by omega, w5.mono (by omega), rs ++ [(mx (0 - 9999) (mn 9999 b), mx (0 - 9999) (mn 9999 (mx b ((at_ bs p).1 + t0 - here + x))))], .val (.int (p : Int)), (at_ bs p).1 + t0, .val (.int ((at_ bs p).1 + t0)), .val (.int b), .val (.int (at_ bs p).1), .val (.int (at_ bs p).2), .val (.int ((at_ bs p).1 + t0 - here)), .val (.int g), ?_, by rw [List.length_append, hl]; rfl, fun q hq => ?_⟩
        · rw [List.map_append]; rfl
        · rcases List.mem_append.mp hq with hq | hq
          · exact hok q hq
          · rw [List.mem_singleton.mp hq]; exact okP_cap _ _
      unfold forB
      by_cases c0 : 0 < m0
      · obtain ⟨y, u4, e4, _, _, w4⟩ := law_take (k + 1) (m := g + 1) w3 (by omega) (by omega)
        obtain ⟨x, u5, e5, e, eo, eg, hq⟩ := last ((at_ bs p).1 + t0 - here - y) u4 w4
        dsimp! [T_pair, i1, e1, e2, e3, c0, e4, max2_mx, min2_mn, e5, eo, eg]
        exact hq
      · obtain ⟨x, u5, e5, e, eo, eg, hq⟩ := last ((at_ bs p).1 + t0 - here + 1) u3 (w3.mono (by omega))
        dsimp! [T_pair, i1, e1, e2, e3, c0, max2_mx, min2_mn, e5, eo, eg]
        exact hq
    · intro env u' ⟨hle, w, rs, x2, here, x5, x6, x7, x8, x9, x10, he, hl, hok⟩
      subst he
      have eb : Bi.run u' .tuple [.lst (rs.map pr)] = some (bnds rs) := rfl
      dsimp! [eb]
      exact ⟨rs, rfl, ⟨by omega, hok⟩, w.mono (by omega)⟩
  obtain ⟨r, u', e, hq⟩ := key.of
  obtain ⟨cs, hr, hb, hw⟩ := hq
  subst hr
  exact ⟨cs, u', e, hb, hw⟩
end Lx

end Part_k77M12

section Part_k77K1
set_option maxRecDepth 100000
set_option maxHeartbeats 1000000
/-! K1: reaches told; steps from one fraction up to another one. -/
namespace Lx
open Lv PySem
/-- whole, with the numbers' sizes -/
theorem bd_int {n : Int} {k : Nat} (h : n.natAbs < 2 ^ k) (hk : 1 ≤ k) : Qs k (n : Rat) := Qs.int h hk
def canB (bs cs : BS) : Bool := (List.range bs.length).all fun p => decide (least bs cs p ≤ great bs cs p)
def reachD (bs cs : BS) (p : Nat) : D := .tup [Q ((least bs cs p : Int) : Rat), Q ((great bs cs p : Int) : Rat)]
section
variable {bs cs : BS} (h : OkB bs) (hc : OkC bs cs)
include h hc
theorem caps_reach_by (k : Nat) (u : U) {p : Nat} (hp : p < bs.length) : rn (k + 4) 22 [bnds bs, bnds cs, .int (p : Int)] u = .ok (if canB bs cs = true then reachD bs cs p else .non) u := by
  have e0 := can_keep_caps_by h hc k u
  have e1 := least_at h hc (k + 1) u hp
  have e2 := greatest_at h hc (k + 1) u hp
  rw [run_to (f := f22) (body := b22) (env := [.val (bnds bs), .val (bnds cs), .val (.int (p : Int))]) rfl rfl rfl rfl]
  unfold b22
  show _ = Res.ok (if canB bs cs = true then _ else _) u
  unfold canB
  cases q : (List.range bs.length).all fun p => decide (least bs cs p ≤ great bs cs p) with
  | true => rw [q] at e0; simp! [e0, e1, e2, r_whole]; rfl
  | false => rw [q] at e0; simp! [e0]
theorem check_place (k : Nat) (u : U) {p : Nat} (hp : p < bs.length) : rn (k + 3) 24 [bnds bs, .int (p : Int)] u = .ok .non u := by
  have e : rn (k + 2) 1 [.int (p : Int), .int 0, .int ((bs.length : Int) - 1)] u = .ok (.bl true) u := by
    rw [is_between, decide_eq_true (by omega), decide_eq_true (by omega)]; rfl
  rw [run_to (f := f24) (body := b24) (env := [.val (bnds bs), .val (.int (p : Int))]) rfl rfl rfl rfl]
  unfold b24
  simp! [b_len, e]
theorem caps_reach (k : Nat) (u : U) {p : Nat} (hp : p < bs.length) : rn (k + 8) 29 [bnds bs, bnds cs, .int (p : Int)] u = .ok (if canB bs cs = true then reachD bs cs p else .non) u := by
  have e1 := check_caps k u h hc
  have e2 := check_place h hc (k + 4) u hp
  have e3 := caps_reach_by h hc (k + 3) u hp
  rw [run_to (f := f29) (body := b29) (env := [.val (bnds bs), .val (bnds cs), .val (.int (p : Int))]) rfl rfl rfl rfl]
  unfold b29
  simp! [e1, e2, e3]
end
/-! ### greatest, least -/
def gofF (a b : Rat) : Rat := if a < b then b else a
def lofF (a b : Rat) : Rat := if b < a then b else a
def gof : List Rat → Rat
  | [] => 0
  | q :: r => r.foldl gofF q
def lof : List Rat → Rat
  | [] => 0
  | q :: r => r.foldl lofF q
theorem gof_aux : ∀ (r : List Rat) (q : Rat), (r.foldl gofF q ∈ q :: r) ∧ ∀ x ∈ q :: r, x ≤ r.foldl gofF q
  | [], q => ⟨List.mem_singleton.mpr rfl, fun x hx => by rw [List.mem_singleton.mp hx]; exact Rat.le_refl⟩
  | a :: r, q => by
    obtain ⟨h1, h2⟩ := gof_aux r (gofF q a)
    show (r.foldl gofF (gofF q a) ∈ _) ∧ ∀ x ∈ _, x ≤ r.foldl gofF (gofF q a)
    have hq : q ≤ gofF q a ∧ a ≤ gofF q a ∧ (gofF q a = q ∨ gofF q a = a) := by
      unfold gofF
      by_cases c : q < a
      · rw [if_pos c]; exact ⟨Rat.le_of_lt c, Rat.le_refl, .inr rfl⟩
      · rw [if_neg c]; exact ⟨Rat.le_refl, Rat.not_lt.mp c, .inl rfl⟩
    refine ⟨?_, fun x hx => ?_⟩
    · rcases List.mem_cons.mp h1 with e | e
      · rcases hq.2.2 with e2 | e2
        · rw [e, e2]; exact List.mem_cons_self
        · rw [e, e2]; exact List.mem_cons_of_mem _ List.mem_cons_self
      · exact List.mem_cons_of_mem _ (List.mem_cons_of_mem _ e)
    · have hb := h2 _ List.mem_cons_self
      rcases List.mem_cons.mp hx with e | hx
      · rw [e]; exact Rat.le_trans hq.1 hb
      · rcases List.mem_cons.mp hx with e | hx
        · rw [e]; exact Rat.le_trans hq.2.1 hb
        · exact h2 x (List.mem_cons_of_mem _ hx)
theorem lof_aux : ∀ (r : List Rat) (q : Rat), (r.foldl lofF q ∈ q :: r) ∧ ∀ x ∈ q :: r, r.foldl lofF q ≤ x
  | [], q => ⟨List.mem_singleton.mpr rfl, fun x hx => by rw [List.mem_singleton.mp hx]; exact Rat.le_refl⟩
  | a :: r, q => by
    obtain ⟨h1, h2⟩ := lof_aux r (lofF q a)
    show (r.foldl lofF (lofF q a) ∈ _) ∧ ∀ x ∈ _, r.foldl lofF (lofF q a) ≤ x
    have hq : lofF q a ≤ q ∧ lofF q a ≤ a ∧ (lofF q a = q ∨ lofF q a = a) := by
      unfold lofF
      by_cases c : a < q
      · rw [if_pos c]; exact ⟨Rat.le_of_lt c, Rat.le_refl, .inr rfl⟩
      · rw [if_neg c]; exact ⟨Rat.le_refl, Rat.not_lt.mp c, .inl rfl⟩
    refine ⟨?_, fun x hx => ?_⟩
    · rcases List.mem_cons.mp h1 with e | e
      · rcases hq.2.2 with e2 | e2
        · rw [e, e2]; exact List.mem_cons_self
        · rw [e, e2]; exact List.mem_cons_of_mem _ List.mem_cons_self
      · exact List.mem_cons_of_mem _ (List.mem_cons_of_mem _ e)
    · have hb := h2 _ List.mem_cons_self
      rcases List.mem_cons.mp hx with e | hx
      · rw [e]; exact Rat.le_trans hb hq.1
      · rcases List.mem_cons.mp hx with e | hx
        · rw [e]; exact Rat.le_trans hb hq.2.1
        · exact h2 x (List.mem_cons_of_mem _ hx)
theorem gof_spec {qs : List Rat} (h : qs ≠ []) : gof qs ∈ qs ∧ ∀ x ∈ qs, x ≤ gof qs := by
  cases qs with
  | nil => exact absurd rfl h
  | cons q r => exact gof_aux r q
theorem lof_spec {qs : List Rat} (h : qs ≠ []) : lof qs ∈ qs ∧ ∀ x ∈ qs, lof qs ≤ x := by
  cases qs with
  | nil => exact absurd rfl h
  | cons q r => exact lof_aux r q
theorem r_greater (k : Nat) (u : U) {a b : Rat} {m : Nat} (ha : Qs m a) (hb : Qs m b) (hm : m ≤ 4000) : rn (k + 2) 10 [Q a, Q b] u = .ok (Q (gofF a b)) u := by
  have e := r_is_less k u ha hb hm
  rw [run_to (f := f10) (body := b10) (env := [.val (Q a), .val (Q b)]) rfl rfl rfl rfl]
  unfold b10
  unfold gofF
  by_cases c : a < b
  · rw [decide_eq_true c] at e; rw [if_pos c]; simp! [e]
  · rw [decide_eq_false c] at e; rw [if_neg c]; simp! [e]
theorem r_lesser (k : Nat) (u : U) {a b : Rat} {m : Nat} (ha : Qs m a) (hb : Qs m b) (hm : m ≤ 4000) : rn (k + 2) 11 [Q a, Q b] u = .ok (Q (lofF a b)) u := by
  have e := r_is_less k u hb ha hm
  rw [run_to (f := f11) (body := b11) (env := [.val (Q a), .val (Q b)]) rfl rfl rfl rfl]
  unfold b11
  unfold lofF
  by_cases c : b < a
  · rw [decide_eq_true c] at e; rw [if_pos c]; simp! [e]
  · rw [decide_eq_false c] at e; rw [if_neg c]; simp! [e]
theorem qs_gofF {a b : Rat} {m : Nat} (ha : Qs m a) (hb : Qs m b) : Qs m (gofF a b) := by unfold gofF; split <;> assumption
theorem qs_lofF {a b : Rat} {m : Nat} (ha : Qs m a) (hb : Qs m b) : Qs m (lofF a b) := by unfold lofF; split <;> assumption
theorem cut_1 {α : Type} (x : α) (xs : List α) : cut (x :: xs) (some (1 : Int)) none = xs := by
  have := cut_from (x :: xs) 1
  exact this
theorem greatest_of (k : Nat) (u : U) {qs : List Rat} {m : Nat} {d : D} (hd : d = .lst (qs.map Q) ∨ d = .tup (qs.map Q)) (hq : ∀ q ∈ qs, Qs m q) (hm : m ≤ 4000) (hne : qs ≠ []) : rn (k + 3) 12 [d] u = .ok (Q (gof qs)) u := by
  obtain ⟨q, r, rfl⟩ : ∃ q r, qs = q :: r := by cases qs with | nil => exact absurd rfl hne | cons q r => exact ⟨q, r, rfl⟩
  have i0 : idxD u d (.int 0) = some (Q q) := by
    rcases hd with rfl | rfl
    · exact idx_lst' (ds := (q :: r).map Q) (i := 0) (by simp)
    · exact idx_tup' (ds := (q :: r).map Q) (i := 0) (by simp)
  have i1 : ∃ d', slTD d (some 1) none u = .ok d' u ∧ itsOf d' = some (r.map Q) := by
    rcases hd with rfl | rfl
    · exact ⟨_, by rw [slT_ml, cut_1], rfl⟩
    · exact ⟨_, by rw [slT_mt, cut_1], rfl⟩
  obtain ⟨d', i1, i2⟩ := i1
  rw [run_to (f := f12) (body := b12) (env := [.val d, .no, .no]) rfl rfl rfl rfl]
  unfold b12
  simp! [i0, i1, i2]
  refine Wp_eq ?_
  simp! []
  refine forRun_map (xs := r) (fun i env u' => u' = u ∧ ∃ x, env = [.val d, .val (Q ((r.take i).foldl gofF q)), x]) ⟨rfl, _, rfl⟩ ?_ ?_
  · intro i x env u' hx ⟨hu, y, he⟩
    subst hu he
    have z : Qs m ((r.take i).foldl gofF q) := by
      have h1 := (gof_aux (r.take i) q).1
      refine hq _ ?_
      rcases List.mem_cons.mp h1 with e | e
      · rw [e]; exact List.mem_cons_self
      · exact List.mem_cons_of_mem _ (List.mem_of_mem_take e)
    have e := r_greater k u' z (hq x (List.mem_cons_of_mem _ (List.mem_of_getElem? hx))) hm
    simp! [e]
    refine ⟨trivial, .val (Q x), ?_⟩
    have e2 : r.take (i + 1) = r.take i ++ [x] := by
      obtain ⟨hi, ex⟩ := List.getElem?_eq_some_iff.mp hx
      rw [List.take_succ_eq_append_getElem hi, ex]
    rw [e2, List.foldl_append]
    rfl
  · intro env u' ⟨hu, y, he⟩
    subst hu he
    simp! [List.take_length]
    exact ⟨rfl, trivial⟩
theorem least_of (k : Nat) (u : U) {qs : List Rat} {m : Nat} {d : D} (hd : d = .lst (qs.map Q) ∨ d = .tup (qs.map Q)) (hq : ∀ q ∈ qs, Qs m q) (hm : m ≤ 4000) (hne : qs ≠ []) : rn (k + 3) 13 [d] u = .ok (Q (lof qs)) u := by
  obtain ⟨q, r, rfl⟩ : ∃ q r, qs = q :: r := by cases qs with | nil => exact absurd rfl hne | cons q r => exact ⟨q, r, rfl⟩
  have i0 : idxD u d (.int 0) = some (Q q) := by
    rcases hd with rfl | rfl
    · exact idx_lst' (ds := (q :: r).map Q) (i := 0) (by simp)
    · exact idx_tup' (ds := (q :: r).map Q) (i := 0) (by simp)
  have i1 : ∃ d', slTD d (some 1) none u = .ok d' u ∧ itsOf d' = some (r.map Q) := by
    rcases hd with rfl | rfl
    · exact ⟨_, by rw [slT_ml, cut_1], rfl⟩
    · exact ⟨_, by rw [slT_mt, cut_1], rfl⟩
  obtain ⟨d', i1, i2⟩ := i1
  rw [run_to (f := f13) (body := b13) (env := [.val d, .no, .no]) rfl rfl rfl rfl]
  unfold b13
  simp! [i0, i1, i2]
  refine Wp_eq ?_
  simp! []
  refine forRun_map (xs := r) (fun i env u' => u' = u ∧ ∃ x, env = [.val d, .val (Q ((r.take i).foldl lofF q)), x]) ⟨rfl, _, rfl⟩ ?_ ?_
  · intro i x env u' hx ⟨hu, y, he⟩
    subst hu he
    have z : Qs m ((r.take i).foldl lofF q) := by
      have h1 := (lof_aux (r.take i) q).1
      refine hq _ ?_
      rcases List.mem_cons.mp h1 with e | e
      · rw [e]; exact List.mem_cons_self
      · exact List.mem_cons_of_mem _ (List.mem_of_mem_take e)
    have e := r_lesser k u' z (hq x (List.mem_cons_of_mem _ (List.mem_of_getElem? hx))) hm
    simp! [e]
    refine ⟨trivial, .val (Q x), ?_⟩
    have e2 : r.take (i + 1) = r.take i ++ [x] := by
      obtain ⟨hi, ex⟩ := List.getElem?_eq_some_iff.mp hx
      rw [List.take_succ_eq_append_getElem hi, ex]
    rw [e2, List.foldl_append]
    rfl
  · intro env u' ⟨hu, y, he⟩
    subst hu he
    simp! [List.take_length]
    exact ⟨rfl, trivial⟩
end Lx

end Part_k77K1

section Part_k77K2
set_option maxRecDepth 100000
set_option maxHeartbeats 1000000
/-! K2: spans with whole steps. -/
namespace Lx
open Lv PySem
/-- caps all alike -/
def alike (n : Nat) (lo hi : Int) : BS := List.replicate n (lo, hi)
theorem pa_alike (s : Int × Int → Int) (n : Nat) (lo hi : Int) : ∀ {k : Nat}, k ≤ n → pa s (alike n lo hi) k = s (lo, hi) * k
  | 0, _ => by unfold pa; simp
  | k + 1, h => by
    have e : at_ (alike n lo hi) k = (lo, hi) := by
      unfold alike
      rw [at_get (by simp; omega), List.getElem_replicate]
    rw [pa_succ (by unfold alike; simp; omega), pa_alike s n lo hi (by omega), e, Int.natCast_add, Int.mul_add, Int.natCast_one, Int.mul_one]
theorem alike_ok {bs : BS} (h : OkB bs) {lo hi : Int} (ho : OkP (lo, hi)) : OkC bs (alike (bs.length - 1) lo hi) := by
  have := h.two
  refine ⟨by unfold alike; simp; omega, fun p hp => ?_⟩
  rw [List.eq_of_mem_replicate hp]; exact ho
theorem is_fraction_by (k : Nat) (u : U) {n : Int} : rn (k + 2) 5 [Q (n : Rat)] u = .ok (.bl true) u := by
  have e1 : rn (k + 1) 2 [.tup [.int n, .int 1], .int 2] u = .ok (.bl true) u := by rw [is_tuple_of]; rfl
  have e2 := is_whole k u n
  have e3 := is_whole k u 1
  have e4 : decide ((1 : Int) ≤ 0) = false := rfl
  rw [Q_int]
  rw [run_to (f := f5) (body := b5) (env := [.val (.tup [.int n, .int 1])]) rfl rfl rfl rfl]
  unfold b5
  simp! [e1, e2, e3, e4]
  have e5 : decide ((Int.gcd n 1 : Int) = 1) = true := by simp
  rw [e5]
theorem check_fraction (k : Nat) (u : U) {n : Int} : rn (k + 3) 25 [Q (n : Rat)] u = .ok .non u := by
  have e := is_fraction_by k u (n := n)
  rw [run_to (f := f25) (body := b25) (env := [.val (Q (n : Rat))]) rfl rfl rfl rfl]
  unfold b25
  simp! [e]
section
variable {bs : BS} (h : OkB bs) {lo hi : Int} (ho : OkP (lo, hi))
include h ho
theorem check_span (k : Nat) (u : U) : rn (k + 7) 35 [bnds bs, Q (lo : Rat), Q (hi : Rat)] u = .ok .non u := by
  have e1 := check_bounds k u h
  have e2 := check_fraction (k + 3) u (n := lo)
  have e3 := check_fraction (k + 3) u (n := hi)
  rw [run_to (f := f35) (body := b35) (env := [.val (bnds bs), .val (Q (lo : Rat)), .val (Q (hi : Rat))]) rfl rfl rfl rfl]
  unfold b35
  simp! [e1, e2, e3]
theorem qmul_int (a b : Int) : (a : Rat) * (b : Rat) = ((a * b : Int) : Rat) := (Rat.intCast_mul a b).symm
theorem sm_mul {a : Int} {t : Int} (h1 : -9999 ≤ a) (h2 : a ≤ 9999) (h3 : -10 ≤ t) (h4 : t ≤ 10) : -99990 ≤ a * t ∧ a * t ≤ 99990 := by
  have e := Int.natAbs_mul a t
  have : a.natAbs * t.natAbs ≤ 9999 * 10 := Nat.mul_le_mul (by omega) (by omega)
  omega
theorem sm40 {n : Int} (h1 : -1000000 ≤ n) (h2 : n ≤ 1000000) : Sm 40 n := by
  unfold Sm
  have : (2 : Nat) ^ 40 = 1099511627776 := by decide
  omega
theorem q40 {n : Int} (h1 : -1000000 ≤ n) (h2 : n ≤ 1000000) : Qs 40 (n : Rat) := Qs.int (sm40 h ho h1 h2) (by decide)
theorem dec_int (a b : Int) : decide ((a : Rat) < (b : Rat)) = decide (a < b) := decide_eq_decide.mpr Rat.intCast_lt_intCast
theorem is_barred_up (k : Nat) (u : U) {i j : Nat} (hi' : i < bs.length) (hj : j < bs.length) : rn (k + 3) 30 [bnds bs, .int (i : Int), .int (j : Int), Q (hi : Rat)] u = .ok (.bl (decide (hi * ((j : Int) - i) < (at_ bs j).1 - (at_ bs i).2))) u := by
  have h9 := h.nine
  have i1 := b_idx u hi'
  have i2 := b_idx u hj
  have o1 := h.ok _ (at_mem hi')
  have o2 := h.ok _ (at_mem hj)
  obtain ⟨a1, a2, a3⟩ := o1
  obtain ⟨b1, b2, b3⟩ := o2
  obtain ⟨c1, c2, c3⟩ := ho
  have m := sm_mul h ⟨c1, c2, c3⟩ (a := hi) (t := (j : Int) - i) (by omega) c3 (by omega) (by omega)
  have t1 := r_times k u (a := (hi : Rat)) (b := (((j : Int) - i : Int) : Rat)) (m := 40) (q40 h ⟨c1, c2, c3⟩ (by omega) (by omega)) (q40 h ⟨c1, c2, c3⟩ (by omega) (by omega)) (by decide)
  rw [qmul_int h ⟨c1, c2, c3⟩] at t1
  have t2 := r_is_less (k + 1) u (a := ((hi * ((j : Int) - i) : Int) : Rat)) (b := (((at_ bs j).1 - (at_ bs i).2 : Int) : Rat)) (m := 40) (q40 h ⟨c1, c2, c3⟩ (by omega) (by omega)) (q40 h ⟨c1, c2, c3⟩ (by omega) (by omega)) (by decide)
  rw [dec_int h ⟨c1, c2, c3⟩] at t2
  rw [run_to (f := f30) (body := b30) (env := [.val (bnds bs), .val (.int (i : Int)), .val (.int (j : Int)), .val (Q (hi : Rat))]) rfl rfl rfl rfl]
  unfold b30
  simp! [i1, i2, g_LOW, g_HIGH, pr0, pr1, r_whole, t1, t2]
theorem is_barred_down (k : Nat) (u : U) {i j : Nat} (hi' : i < bs.length) (hj : j < bs.length) : rn (k + 3) 31 [bnds bs, .int (i : Int), .int (j : Int), Q (lo : Rat)] u = .ok (.bl (decide ((at_ bs j).2 - (at_ bs i).1 < lo * ((j : Int) - i)))) u := by
  have h9 := h.nine
  have i1 := b_idx u hi'
  have i2 := b_idx u hj
  have o1 := h.ok _ (at_mem hi')
  have o2 := h.ok _ (at_mem hj)
  obtain ⟨a1, a2, a3⟩ := o1
  obtain ⟨b1, b2, b3⟩ := o2
  obtain ⟨c1, c2, c3⟩ := ho
  have m := sm_mul h ⟨c1, c2, c3⟩ (a := lo) (t := (j : Int) - i) c1 (by omega) (by omega) (by omega)
  have t1 := r_times k u (a := (lo : Rat)) (b := (((j : Int) - i : Int) : Rat)) (m := 40) (q40 h ⟨c1, c2, c3⟩ (by omega) (by omega)) (q40 h ⟨c1, c2, c3⟩ (by omega) (by omega)) (by decide)
  rw [qmul_int h ⟨c1, c2, c3⟩] at t1
  have t2 := r_is_less (k + 1) u (a := (((at_ bs j).2 - (at_ bs i).1 : Int) : Rat)) (b := ((lo * ((j : Int) - i) : Int) : Rat)) (m := 40) (q40 h ⟨c1, c2, c3⟩ (by omega) (by omega)) (q40 h ⟨c1, c2, c3⟩ (by omega) (by omega)) (by decide)
  rw [dec_int h ⟨c1, c2, c3⟩] at t2
  rw [run_to (f := f31) (body := b31) (env := [.val (bnds bs), .val (.int (i : Int)), .val (.int (j : Int)), .val (Q (lo : Rat))]) rfl rfl rfl rfl]
  unfold b31
  simp! [i1, i2, g_LOW, g_HIGH, pr0, pr1, r_whole, t1, t2]
theorem barring_nil (hD : Due bs (alike (bs.length - 1) lo hi)) (k : Nat) (u : U) : rn (k + 4) 32 [bnds bs, Q (lo : Rat), Q (hi : Rat)] u = .ok (.lst []) u := by
  have h9 := h.nine
  have dueA : ∀ i j : Nat, i < j → j < bs.length → ¬ (hi * ((j : Int) - i) < (at_ bs j).1 - (at_ bs i).2) ∧ ¬ ((at_ bs j).2 - (at_ bs i).1 < lo * ((j : Int) - i)) := by
    intro i j hij hj
    obtain ⟨d1, d2⟩ := hD i j hij hj
    unfold pB at d1
    unfold pA at d2
    rw [pa_alike _ _ lo hi (show j ≤ bs.length - 1 by omega), pa_alike _ _ lo hi (show i ≤ bs.length - 1 by omega)] at d1 d2
    simp only at d1 d2
    rw [Int.mul_sub, Int.mul_sub]
    omega
  rw [run_to (f := f32) (body := b32) (env := [.val (bnds bs), .val (Q (lo : Rat)), .val (Q (hi : Rat)), .no, .no, .no]) rfl rfl rfl rfl]
  unfold b32
  simp! [b_len]
  refine Wp_eq ?_
  simp! []
  refine forRun_any (fun i env u' => u' = u ∧ ∃ x y, env = [.val (bnds bs), .val (Q (lo : Rat)), .val (Q (hi : Rat)), .own [], x, y]) ⟨rfl, _, _, rfl⟩ ?_ ?_
  · intro i env u' hi' ⟨hu, x, y, he⟩
    subst hu he
    simp! [cast_1, b_len]
    refine Wp.mono (forRun_rng (Q := fun o u2 => ∃ x y, o = .nxt [.val (bnds bs), .val (Q (lo : Rat)), .val (Q (hi : Rat)), .own [], x, y] ∧ u2 = u') (fun j env u2 => u2 = u' ∧ ∃ y, env = [.val (bnds bs), .val (Q (lo : Rat)), .val (Q (hi : Rat)), .own [], .val (.int (i : Int)), y]) ⟨rfl, _, rfl⟩ ?_ ?_) ?_
    · intro j env u2 hj1 hj2 ⟨hu, y, he⟩
      subst hu he
      have n1 := dueA i j (by omega) (by omega)
      have e1 := is_barred_up h ho k u2 (i := i) (j := j) (by omega) (by omega)
      have e2 := is_barred_down h ho k u2 (i := i) (j := j) (by omega) (by omega)
      rw [decide_eq_false n1.1] at e1
      rw [decide_eq_false n1.2] at e2
      simp! [e1, e2]
      exact ⟨trivial, _, rfl⟩
    · intro env u2 ⟨hu, y, he⟩
      subst hu he
      exact ⟨_, _, rfl, rfl⟩
    · intro o u2 ⟨x, y, ho, hu⟩
      subst hu ho
      simp! []
      exact ⟨trivial, _, _, rfl⟩
  · intro env u' ⟨hu, x, y, he⟩
    subst hu he
    have hf : frzD [.val (bnds bs), .val (Q (lo : Rat)), .val (Q (hi : Rat)), .own [], x, y] 3 = [.val (bnds bs), .val (Q (lo : Rat)), .val (Q (hi : Rat)), .val (.lst []), x, y] := rfl
    simp! [hf]
    exact ⟨trivial, trivial⟩
/-- what a height becomes -/
theorem height_from (k : Nat) (u : U) {n a b : Int} {i p : Nat} (hn : Bd n) (ha : Bd a) (hb : Bd b) (hi' : i < 9) (hp : p < 9) : rn (k + 3) 33 [.int n, .int (i : Int), .int (p : Int), Q (a : Rat), Q (b : Rat)] u = .ok (Q ((n + (if i ≤ p then a else b) * ((p : Int) - i) : Int) : Rat)) u := by
  unfold Bd at hn ha hb
  rw [run_to (f := f33) (body := b33) (env := [.val (.int n), .val (.int (i : Int)), .val (.int (p : Int)), .val (Q (a : Rat)), .val (Q (b : Rat)), .no]) rfl rfl rfl rfl]
  unfold b33
  have key : ∀ c : Int, -9999 ≤ c → c ≤ 9999 → rn (k + 2) 8 [Q (c : Rat), Q (((p : Int) - i : Int) : Rat)] u = .ok (Q ((c * ((p : Int) - i) : Int) : Rat)) u ∧ rn (k + 2) 7 [Q (n : Rat), Q ((c * ((p : Int) - i) : Int) : Rat)] u = .ok (Q ((n + c * ((p : Int) - i) : Int) : Rat)) u := by
    intro c h1 h2
    have m := sm_mul h ho (a := c) (t := (p : Int) - i) h1 h2 (by omega) (by omega)
    constructor
    · have t := r_times k u (a := (c : Rat)) (b := (((p : Int) - i : Int) : Rat)) (m := 40) (q40 h ho (by omega) (by omega)) (q40 h ho (by omega) (by omega)) (by decide)
      rw [qmul_int h ho] at t
      exact t
    · have t := r_sum k u (a := (n : Rat)) (b := ((c * ((p : Int) - i) : Int) : Rat)) (m := 40) (q40 h ho (by omega) (by omega)) (q40 h ho (by omega) (by omega)) (by decide)
      rw [← Rat.intCast_add] at t
      exact t
  by_cases c : i ≤ p
  · obtain ⟨t1, t2⟩ := key a ha.1 ha.2
    have c2 : (0 : Int) ≤ (p : Int) - i := by omega
    rw [if_pos c]
    simp! [c2, r_whole, t1, t2]
  · obtain ⟨t1, t2⟩ := key b hb.1 hb.2
    have c2 : ¬ ((0 : Int) ≤ (p : Int) - i) := by omega
    rw [if_neg c]
    simp! [c2, r_whole, t1, t2]
end
end Lx

end Part_k77K2

section Part_k77K3
set_option maxRecDepth 100000
set_option maxHeartbeats 1000000
/-! K3: reach, by whole steps, is the reach by caps. -/
namespace Lx
open Lv PySem
theorem gof_int {ns : List Int} (h : ns ≠ []) : gof (ns.map fun (n : Int) => (n : Rat)) = ((maxL ns : Int) : Rat) := by
  obtain ⟨h1, h2⟩ := gof_spec (qs := ns.map fun (n : Int) => (n : Rat)) (by simpa using h)
  apply Rat.le_antisymm
  · obtain ⟨n, hn, e⟩ := List.mem_map.mp h1
    rw [← e]
    exact Rat.intCast_le_intCast.mpr (le_maxL hn)
  · exact h2 _ (List.mem_map.mpr ⟨_, maxL_mem h, rfl⟩)
theorem lof_int {ns : List Int} (h : ns ≠ []) : lof (ns.map fun (n : Int) => (n : Rat)) = ((minL ns : Int) : Rat) := by
  obtain ⟨h1, h2⟩ := lof_spec (qs := ns.map fun (n : Int) => (n : Rat)) (by simpa using h)
  apply Rat.le_antisymm
  · exact h2 _ (List.mem_map.mpr ⟨_, minL_mem h, rfl⟩)
  · obtain ⟨n, hn, e⟩ := List.mem_map.mp h1
    rw [← e]
    exact Rat.intCast_le_intCast.mpr (minL_le hn)
theorem zi_mem {bs : BS} {p : (Int × Int) × Nat} (h : p ∈ bs.zipIdx) : p.2 < bs.length ∧ at_ bs p.2 = p.1 := by
  obtain ⟨q, i⟩ := p
  have := List.mem_zipIdx_iff_getElem?.mp h
  simp at this
  obtain ⟨h1, h2⟩ := List.getElem?_eq_some_iff.mp this
  exact ⟨h1, by rw [at_get h1]; exact h2⟩
theorem zi_of {bs : BS} {i : Nat} (h : i < bs.length) : (at_ bs i, i) ∈ bs.zipIdx := by
  refine List.mem_zipIdx_iff_getElem?.mpr ?_
  simp
  rw [List.getElem?_eq_getElem h, at_get h]
section
variable {bs : BS} (h : OkB bs) {lo hi : Int} (ho : OkP (lo, hi))
include h ho
def lowsN (bs : BS) (lo hi : Int) (p : Nat) : List Int := bs.zipIdx.map fun q => q.1.1 + (if q.2 ≤ p then lo else hi) * ((p : Int) - q.2)
def highsN (bs : BS) (lo hi : Int) (p : Nat) : List Int := bs.zipIdx.map fun q => q.1.2 + (if q.2 ≤ p then hi else lo) * ((p : Int) - q.2)
theorem lows_is {p : Nat} (hp : p < bs.length) : maxL (lowsN bs lo hi p) = least bs (alike (bs.length - 1) lo hi) p := by
  have hne : lowsN bs lo hi p ≠ [] := fun e => by
    have : (lowsN bs lo hi p).length = bs.length := by unfold lowsN; simp
    rw [e] at this
    simp at this
    omega
  have pa1 : ∀ k, k < bs.length → pA (alike (bs.length - 1) lo hi) k = lo * k := fun k hk => pa_alike (·.1) _ lo hi (by omega)
  have pa2 : ∀ k, k < bs.length → pB (alike (bs.length - 1) lo hi) k = hi * k := fun k hk => pa_alike (·.2) _ lo hi (by omega)
  apply Int.le_antisymm
  · refine maxL_ub hne fun y hy => ?_
    obtain ⟨q, hq, rfl⟩ := List.mem_map.mp hy
    obtain ⟨h1, h2⟩ := zi_mem hq
    rw [← h2]
    by_cases c : q.2 ≤ p
    · rw [if_pos c]
      have z := least_ge1 (bs := bs) (cs := alike (bs.length - 1) lo hi) c
      rw [pa1 _ hp, pa1 _ h1] at z
      rw [Int.mul_sub]; omega
    · rw [if_neg c]
      have z := least_ge2 (bs := bs) (cs := alike (bs.length - 1) lo hi) (p := p) (i := q.2) (by omega) h1
      rw [pa2 _ hp, pa2 _ h1] at z
      rw [Int.mul_sub]; omega
  · refine least_le (fun i hi' => ?_) fun i hi' hl => ?_
    · refine le_maxL (List.mem_map.mpr ⟨_, zi_of (show i < bs.length by omega), ?_⟩)
      show (at_ bs i).1 + (if i ≤ p then lo else hi) * ((p : Int) - i) = _
      rw [if_pos hi', pa1 _ hp, pa1 _ (by omega), Int.mul_sub]
    · refine le_maxL (List.mem_map.mpr ⟨_, zi_of hl, ?_⟩)
      show (at_ bs i).1 + (if i ≤ p then lo else hi) * ((p : Int) - i) = _
      by_cases c : i ≤ p
      · obtain rfl : i = p := by omega
        rw [if_pos c, Int.sub_self, Int.mul_zero]; omega
      · rw [if_neg c, pa2 _ hp, pa2 _ (by omega), Int.mul_sub]; omega
theorem highs_is {p : Nat} (hp : p < bs.length) : minL (highsN bs lo hi p) = great bs (alike (bs.length - 1) lo hi) p := by
  have hne : highsN bs lo hi p ≠ [] := fun e => by
    have : (highsN bs lo hi p).length = bs.length := by unfold highsN; simp
    rw [e] at this
    simp at this
    omega
  have pa1 : ∀ k, k < bs.length → pA (alike (bs.length - 1) lo hi) k = lo * k := fun k hk => pa_alike (·.1) _ lo hi (by omega)
  have pa2 : ∀ k, k < bs.length → pB (alike (bs.length - 1) lo hi) k = hi * k := fun k hk => pa_alike (·.2) _ lo hi (by omega)
  apply Int.le_antisymm
  · refine great_ge (fun i hi' => ?_) fun i hi' hl => ?_
    · refine minL_le (List.mem_map.mpr ⟨_, zi_of (show i < bs.length by omega), ?_⟩)
      show (at_ bs i).2 + (if i ≤ p then hi else lo) * ((p : Int) - i) = _
      rw [if_pos hi', pa2 _ hp, pa2 _ (by omega), Int.mul_sub]
    · refine minL_le (List.mem_map.mpr ⟨_, zi_of hl, ?_⟩)
      show (at_ bs i).2 + (if i ≤ p then hi else lo) * ((p : Int) - i) = _
      by_cases c : i ≤ p
      · obtain rfl : i = p := by omega
        rw [if_pos c, Int.sub_self, Int.mul_zero]; omega
      · rw [if_neg c, pa1 _ hp, pa1 _ (by omega), Int.mul_sub]; omega
  · refine minL_lb hne fun y hy => ?_
    obtain ⟨q, hq, rfl⟩ := List.mem_map.mp hy
    obtain ⟨h1, h2⟩ := zi_mem hq
    rw [← h2]
    by_cases c : q.2 ≤ p
    · rw [if_pos c]
      have z := great_le1 (bs := bs) (cs := alike (bs.length - 1) lo hi) c
      rw [pa2 _ hp, pa2 _ h1] at z
      rw [Int.mul_sub]; omega
    · rw [if_neg c]
      have z := great_le2 (bs := bs) (cs := alike (bs.length - 1) lo hi) (p := p) (i := q.2) (by omega) h1
      rw [pa1 _ hp, pa1 _ h1] at z
      rw [Int.mul_sub]; omega
theorem reach_by (hD : Due bs (alike (bs.length - 1) lo hi)) (k : Nat) (u : U) {p : Nat} (hp : p < bs.length) : rn (k + 5) 34 [bnds bs, Q (lo : Rat), Q (hi : Rat), .int (p : Int)] u = .ok (reachD bs (alike (bs.length - 1) lo hi) p) u := by
  have h9 := h.nine
  have e0 := barring_nil h ho hD k u
  have en := enm_0 (b_its bs)
  have hz : bs.zipIdx.length ≤ 1000000 := by rw [List.length_zipIdx]; omega
  have ho' : OkP (lo, hi) := ho
  obtain ⟨c1, c2, c3⟩ := ho'
  have f : ∀ (a b : Int) (side : Int × Int → Int) (u : U), Bd a → Bd b → (∀ q, OkP q → Bd (side q)) → ∀ q ∈ bs.zipIdx, rn (k + 4) 33 [.int (side q.1), .int (q.2 : Int), .int (p : Int), Q (a : Rat), Q (b : Rat)] u = .ok (Q ((side q.1 + (if q.2 ≤ p then a else b) * ((p : Int) - q.2) : Int) : Rat)) u := by
    intro a b side u ha hb hs q hq
    obtain ⟨h1, h2⟩ := zi_mem hq
    have o := h.ok _ (at_mem h1)
    rw [h2] at o
    exact height_from h ho (k + 1) u (hs _ o) ha hb (by omega) (by omega)
  have bl : Bd lo := ⟨c1, by omega⟩
  have bh : Bd hi := ⟨by omega, c3⟩
  have b1 : ∀ q, OkP q → Bd (Prod.fst q) := fun q o => ⟨o.1, Int.le_trans o.2.1 o.2.2⟩
  have b2 : ∀ q, OkP q → Bd (Prod.snd q) := fun q o => ⟨Int.le_trans o.1 o.2.1, o.2.2⟩
  rw [run_to (f := f34) (body := b34) (env := [.val (bnds bs), .val (Q (lo : Rat)), .val (Q (hi : Rat)), .val (.int (p : Int)), .no, .no, .no, .no]) rfl rfl rfl rfl]
  unfold b34
  simp! [e0, ne_nil, en, hz]
  rw [lcA_some (g := fun q => Q ((q.1.1 + (if q.2 ≤ p then lo else hi) * ((p : Int) - q.2) : Int) : Rat)) (fun q hq u => by
    have e := f lo hi Prod.fst u bl bh b1 q hq
    simp! [g_LOW, pr0, e])]
  simp! [en, hz]
  rw [lcA_some (g := fun q => Q ((q.1.2 + (if q.2 ≤ p then hi else lo) * ((p : Int) - q.2) : Int) : Rat)) (fun q hq u => by
    have e := f hi lo Prod.snd u bh bl b2 q hq
    simp! [g_HIGH, pr1, e])]
  have E1 : (bs.zipIdx.map fun q => Q ((q.1.1 + (if q.2 ≤ p then lo else hi) * ((p : Int) - q.2) : Int) : Rat)) = ((lowsN bs lo hi p).map fun (n : Int) => (n : Rat)).map Q := by unfold lowsN; rw [List.map_map, List.map_map]; rfl
  have E2 : (bs.zipIdx.map fun q => Q ((q.1.2 + (if q.2 ≤ p then hi else lo) * ((p : Int) - q.2) : Int) : Rat)) = ((highsN bs lo hi p).map fun (n : Int) => (n : Rat)).map Q := by unfold highsN; rw [List.map_map, List.map_map]; rfl
  have hn1 : lowsN bs lo hi p ≠ [] := fun e => by
    have : (lowsN bs lo hi p).length = bs.length := by unfold lowsN; simp
    rw [e] at this
    simp at this
    omega
  have hn2 : highsN bs lo hi p ≠ [] := fun e => by
    have : (highsN bs lo hi p).length = bs.length := by unfold highsN; simp
    rw [e] at this
    simp at this
    omega
  have sz : ∀ (x t : Int) (q : (Int × Int) × Nat), q ∈ bs.zipIdx → Bd x → Bd t → Qs 40 ((x + t * ((p : Int) - q.2) : Int) : Rat) := by
    intro x t q hq hx ht
    obtain ⟨h1, h2⟩ := zi_mem hq
    have m := sm_mul h ho (a := t) (t := (p : Int) - q.2) ht.1 ht.2 (by omega) (by omega)
    have := hx.1
    have := hx.2
    exact q40 h ho (by omega) (by omega)
  have g1 := greatest_of (k + 1) u (qs := (lowsN bs lo hi p).map fun (n : Int) => (n : Rat)) (m := 40) (.inl rfl) (fun x hx => by
    obtain ⟨n, hn, rfl⟩ := List.mem_map.mp hx
    obtain ⟨q, hq, rfl⟩ := List.mem_map.mp hn
    obtain ⟨h1, h2⟩ := zi_mem hq
    have o := h.ok _ (at_mem h1)
    rw [h2] at o
    exact sz _ _ q hq (b1 _ o) (by split <;> assumption)) (by decide) (by simpa using hn1)
  have g2 := least_of (k + 1) u (qs := (highsN bs lo hi p).map fun (n : Int) => (n : Rat)) (m := 40) (.inl rfl) (fun x hx => by
    obtain ⟨n, hn, rfl⟩ := List.mem_map.mp hx
    obtain ⟨q, hq, rfl⟩ := List.mem_map.mp hn
    obtain ⟨h1, h2⟩ := zi_mem hq
    have o := h.ok _ (at_mem h1)
    rw [h2] at o
    exact sz _ _ q hq (b2 _ o) (by split <;> assumption)) (by decide) (by simpa using hn2)
  rw [gof_int hn1, lows_is h ho hp] at g1
  rw [lof_int hn2, highs_is h ho hp] at g2
  rw [E1, E2]
  simp! [g1, g2]
  rfl
theorem reach (hD : Due bs (alike (bs.length - 1) lo hi)) (k : Nat) (u : U) {p : Nat} (hp : p < bs.length) : rn (k + 8) 36 [bnds bs, Q (lo : Rat), Q (hi : Rat), .int (p : Int)] u = .ok (reachD bs (alike (bs.length - 1) lo hi) p) u := by
  have e1 := check_span h ho k u
  have e2 := check_place h (alike_ok h ho) (k + 4) u hp
  have e3 := reach_by h ho hD (k + 2) u hp
  rw [run_to (f := f36) (body := b36) (env := [.val (bnds bs), .val (Q (lo : Rat)), .val (Q (hi : Rat)), .val (.int (p : Int))]) rfl rfl rfl rfl]
  unfold b36
  simp! [e1, e2, e3]
end
end Lx

end Part_k77K3

section Part_k77K4
set_option maxRecDepth 100000
set_option maxHeartbeats 1000000
/-! K4: all whole runs. -/
namespace Lx
open Lv PySem
def rowD (r : List Int) : D := .tup (r.map D.int)
def nth (r : List Int) (i : Nat) : Int := r.getD i 0
theorem nth_lt {r : List Int} {h : Int} {i : Nat} (hi : i < r.length) : nth (r ++ [h]) i = nth r i := by
  unfold nth
  rw [List.getD_eq_getElem?_getD, List.getD_eq_getElem?_getD, List.getElem?_append_left hi]
theorem nth_len (r : List Int) (h : Int) : nth (r ++ [h]) r.length = h := by
  unfold nth
  rw [List.getD_eq_getElem?_getD, List.getElem?_append_right (Nat.le_refl _), Nat.sub_self]; rfl
theorem nth_get {r : List Int} {i : Nat} (h : i < r.length) : r[i] = nth r i := by
  unfold nth
  rw [List.getD_eq_getElem?_getD, List.getElem?_eq_getElem h]; rfl
structure OkR (bs cs : BS) (m : Nat) (r : List Int) : Prop where
  len : r.length = m
  ins : ∀ i, i < m → (at_ bs i).1 ≤ nth r i ∧ nth r i ≤ (at_ bs i).2
  stp : ∀ i, i + 1 < m → (at_ cs i).1 ≤ nth r (i + 1) - nth r i ∧ nth r (i + 1) - nth r i ≤ (at_ cs i).2
def StpOk (bs cs : BS) (m : Nat) (q : List Int) (h : Int) : Prop := (at_ bs m).1 ≤ h ∧ h ≤ (at_ bs m).2 ∧ (at_ cs (m - 1)).1 ≤ h - nth q (m - 1) ∧ h - nth q (m - 1) ≤ (at_ cs (m - 1)).2
theorem okR_app {bs cs : BS} {m : Nat} {q : List Int} {h : Int} (hm : 1 ≤ m) (o : OkR bs cs m q) (s : StpOk bs cs m q h) : OkR bs cs (m + 1) (q ++ [h]) := by
  have l := o.len
  refine ⟨by rw [List.length_append, l]; rfl, fun i hi => ?_, fun i hi => ?_⟩
  · by_cases e : i = m
    · rw [e, ← l, nth_len, l]; exact ⟨s.1, s.2.1⟩
    · rw [nth_lt (by omega)]; exact o.ins i (by omega)
  · by_cases e : i + 1 = m
    · have e2 : i = m - 1 := by omega
      have : nth (q ++ [h]) (i + 1) = h := by rw [e, ← l]; exact nth_len q h
      rw [this, nth_lt (by omega), e2]
      exact ⟨s.2.2.1, s.2.2.2⟩
    · rw [nth_lt (by omega), nth_lt (by omega)]; exact o.stp i (by omega)
theorem okR_cut {bs cs : BS} {m : Nat} {r : List Int} (hm : 1 ≤ m) (o : OkR bs cs (m + 1) r) : ∃ q h, r = q ++ [h] ∧ OkR bs cs m q ∧ StpOk bs cs m q h := by
  have l := o.len
  obtain ⟨q, h, rfl⟩ : ∃ q h, r = q ++ [h] := by
    have hne : r ≠ [] := fun e => by rw [e] at l; simp at l
    exact ⟨r.dropLast, r.getLast hne, (List.dropLast_concat_getLast hne).symm⟩
  have lq : q.length = m := by rw [List.length_append] at l; simpa using l
  have nm : nth (q ++ [h]) m = h := by rw [← lq]; exact nth_len q h
  refine ⟨q, h, rfl, ⟨lq, fun i hi => ?_, fun i hi => ?_⟩, ?_⟩
  · have := o.ins i (by omega)
    rwa [nth_lt (by omega)] at this
  · have := o.stp i (by omega)
    rwa [nth_lt (by omega), nth_lt (by omega)] at this
  · have a := o.ins m (by omega)
    have b := o.stp (m - 1) (by omega)
    rw [show m - 1 + 1 = m by omega, nth_lt (show m - 1 < q.length by omega)] at b
    rw [nm] at a b
    exact ⟨a.1, a.2, b.1, b.2⟩
theorem rng2_int {a b : Int} (h1 : -1000000 ≤ a) (h2 : a ≤ 1000000) (h3 : -1000000 ≤ b) (h4 : b ≤ 1000000) : rng2D (.int a) (.int b) = some ((List.range (b - a).toNat).map fun (i : Nat) => D.int (a + (i : Int))) := by
  show (if (rngOk a && rngOk b) = true then some (rngL a b) else none) = _
  rw [if_pos (by unfold rngOk; simp; omega)]
  rfl
theorem row_last (u : U) {r : List Int} {m : Nat} (hm : 1 ≤ m) (h : r.length = m) : idxD u (rowD r) (.int (-1)) = some (.int (nth r (m - 1))) := by
  unfold rowD
  rw [idx_mtL u D.int (by omega), h, getElem!_pos r _ (by omega), nth_get]
theorem row_at (u : U) {r : List Int} {i : Nat} (h : i < r.length) : idxD u (rowD r) (.int (i : Int)) = some (.int (nth r i)) := by
  unfold rowD
  rw [idx_mt u D.int h, getElem!_pos r _ h, nth_get]
theorem row_add (r : List Int) (h : Int) (hl : r.length ≤ 100) : BinO.run .add (rowD r) (.tup [.int h]) = some (rowD (r ++ [h])) := by
  unfold rowD
  rw [add_tt (by rw [List.length_map]; unfold line; simp; omega), List.map_append]; rfl
section
variable {bs cs : BS} (h : OkB bs) (hc : OkC bs cs)
include h hc
theorem law_runs (hW : ∀ p ∈ bs, p.2 - p.1 < 7) (k : Nat) (u : U) : Wp (rn (k + 1) 45 [bnds bs, bnds cs] u) fun r u' => u' = u ∧ (r = .non ∨ ∃ rows : List (List Int), r = .lst (rows.map rowD) ∧ rows.length ≤ 300 ∧ ∀ r, r ∈ rows ↔ OkR bs cs bs.length r) := by
  have h9 := h.nine
  have h2 := h.two
  have hl := hc.len
  have i0 := b_idx0 u (show 0 < bs.length by omega)
  rw [run_to (f := f45) (body := b45) (env := [.val (bnds bs), .val (bnds cs), .no, .no, .no, .no, .no]) rfl rfl rfl rfl]
  unfold b45
  simp! [i0, pr0, b_len]
  refine forRun_rng (fun t env u' => u' = u ∧ ∃ (rows : List (List Int)) (x3 x4 x5 x6 : Sl), env = [.val (bnds bs), .val (bnds cs), .val (.lst (rows.map rowD)), x3, x4, x5, x6] ∧ rows.length ≤ 300 ∧ ∀ r, r ∈ rows ↔ OkR bs cs t r) ?_ ?_ ?_
  · refine ⟨rfl, [[(at_ bs 0).1]], _, _, _, _, rfl, by simp, fun r => ?_⟩
    rw [List.mem_singleton]
    constructor
    · intro e
      subst e
      refine ⟨rfl, fun i hi => ?_, fun i hi => by omega⟩
      obtain rfl : i = 0 := by omega
      have := h.first
      show (at_ bs 0).1 ≤ (at_ bs 0).1 ∧ (at_ bs 0).1 ≤ (at_ bs 0).2
      omega
    · intro o
      have l := o.len
      match r, l with
      | [x], _ =>
        have := o.ins 0 (by omega)
        have f := h.first
        have e : nth [x] 0 = x := rfl
        rw [e] at this
        have : x = (at_ bs 0).1 := by omega
        rw [this]
  · intro t env u' ht1 ht2 ⟨hu, rows, x3, x4, x5, x6, he, hlen, hmem⟩
    subst hu he
    have htl : t < bs.length := by omega
    have okp := h.ok _ (at_mem htl)
    obtain ⟨q1, q2, q3⟩ := okp
    have hw := hW _ (at_mem htl)
    have ib := b_idx u' htl
    have ic := b_idx u' (show t - 1 < cs.length by omega)
    have ek : (t : Int) - 1 = ((t - 1 : Nat) : Int) := by omega
    have rg := rng2_int (a := (at_ bs t).1) (b := (at_ bs t).2 + 1) (by omega) (by omega) (by omega) (by omega)
    simp! []
    refine Wp.mono (forRun_map (Q := fun o u2 => u2 = u' ∧ ∃ (more : List (List Int)) (x5 x6 : Sl), o = .nxt [.val (bnds bs), .val (bnds cs), .val (.lst (rows.map rowD)), .val (.int (t : Int)), .val (.lst (more.map rowD)), x5, x6] ∧ more.length ≤ 2400 ∧ ∀ r, r ∈ more ↔ ∃ q ∈ rows, ∃ x, r = q ++ [x] ∧ StpOk bs cs t q x)
      (fun i env u2 => u2 = u' ∧ ∃ (more : List (List Int)) (x5 x6 : Sl), env = [.val (bnds bs), .val (bnds cs), .val (.lst (rows.map rowD)), .val (.int (t : Int)), .val (.lst (more.map rowD)), x5, x6] ∧ more.length ≤ 8 * i ∧ ∀ r, r ∈ more ↔ ∃ q ∈ rows.take i, ∃ x, r = q ++ [x] ∧ StpOk bs cs t q x) ⟨rfl, [], _, _, rfl, by decide, fun r => by simp⟩ ?_ ?_) ?_
    · intro i q env u2 hq ⟨hu, more, x5, x6, he, hml, hmm⟩
      subst hu he
      have hqm := List.mem_of_getElem? hq
      have oq := (hmem q).mp hqm
      have rl := row_last u2 ht1 oq.len
      have hi : i < rows.length := (List.getElem?_eq_some_iff.mp hq).1
      have hz : (List.range ((at_ bs t).2 + 1 - (at_ bs t).1).toNat).length ≤ 1000000 := by rw [List.length_range]; omega
      simp! [ib, pr0, pr1, rg, hz]
      rw [lcA_fil (p := fun (i : Nat) => decide ((at_ cs (t - 1)).1 ≤ (at_ bs t).1 + (i : Int) - nth q (t - 1)) && decide ((at_ bs t).1 + (i : Int) - nth q (t - 1) ≤ (at_ cs (t - 1)).2)) (g := fun (i : Nat) => rowD (q ++ [(at_ bs t).1 + (i : Int)])) (fun i hi u => by
        have ad := row_add q ((at_ bs t).1 + (i : Int)) (by rw [oq.len]; omega)
        have ic := b_idx u (show t - 1 < cs.length by omega)
        have rl := row_last u ht1 oq.len
        simp! [ek, ic, pr0, pr1, rl]
        by_cases c1 : (at_ cs (t - 1)).1 ≤ (at_ bs t).1 + (i : Int) - nth q (t - 1)
        · by_cases c2 : (at_ bs t).1 + (i : Int) - nth q (t - 1) ≤ (at_ cs (t - 1)).2
          · simp! [c1, c2, ic, pr1, ek, ad, Bool.and_self]
          · simp! [c1, c2, ic, pr1, ek, Bool.and_false]
        · simp! [c1, Bool.false_and])]
      obtain ⟨fresh, hf⟩ : ∃ fresh : List (List Int), fresh = ((List.range ((at_ bs t).2 + 1 - (at_ bs t).1).toNat).filter fun (i : Nat) => decide ((at_ cs (t - 1)).1 ≤ (at_ bs t).1 + (i : Int) - nth q (t - 1)) && decide ((at_ bs t).1 + (i : Int) - nth q (t - 1) ≤ (at_ cs (t - 1)).2)).map fun (i : Nat) => q ++ [(at_ bs t).1 + (i : Int)] := ⟨_, rfl⟩
      have ef : (((List.range ((at_ bs t).2 + 1 - (at_ bs t).1).toNat).filter fun (i : Nat) => decide ((at_ cs (t - 1)).1 ≤ (at_ bs t).1 + (i : Int) - nth q (t - 1)) && decide ((at_ bs t).1 + (i : Int) - nth q (t - 1) ≤ (at_ cs (t - 1)).2)).map fun (i : Nat) => rowD (q ++ [(at_ bs t).1 + (i : Int)])) = fresh.map rowD := by rw [hf, List.map_map]; rfl
      have fl : fresh.length ≤ 8 := by
        rw [hf, List.length_map]
        refine Nat.le_trans (List.length_filter_le _ _) ?_
        rw [List.length_range]; omega
      have fm : ∀ r, r ∈ fresh ↔ ∃ x, r = q ++ [x] ∧ StpOk bs cs t q x := by
        intro r
        rw [hf, List.mem_map]
        constructor
        · rintro ⟨j, hj, rfl⟩
          rw [List.mem_filter, List.mem_range, Bool.and_eq_true, decide_eq_true_eq, decide_eq_true_eq] at hj
          exact ⟨_, rfl, by omega, by omega, hj.2.1, hj.2.2⟩
        · rintro ⟨x, rfl, s1, s2, s3, s4⟩
          refine ⟨(x - (at_ bs t).1).toNat, ?_, ?_⟩
          · rw [List.mem_filter, List.mem_range, Bool.and_eq_true, decide_eq_true_eq, decide_eq_true_eq]
            have : (((x - (at_ bs t).1).toNat : Nat) : Int) = x - (at_ bs t).1 := by omega
            rw [this]
            refine ⟨by omega, by omega, by omega⟩
          · have : (at_ bs t).1 + (((x - (at_ bs t).1).toNat : Nat) : Int) = x := by omega
            rw [this]
      rw [ef]
      have hcat : catD (.lst (more.map rowD)) (.lst (fresh.map rowD)) u2 = .ok ((more ++ fresh).map rowD) u2 := by
        rw [cat_ll (by rw [List.length_map, List.length_map]; unfold line; omega), List.map_append]
      simp! [hcat]
      refine ⟨trivial, more ++ fresh, _, _, rfl, by rw [List.length_append]; omega, fun r => ?_⟩
      have et : rows.take (i + 1) = rows.take i ++ [q] := by
        obtain ⟨hi, ex⟩ := List.getElem?_eq_some_iff.mp hq
        rw [List.take_succ_eq_append_getElem hi, ex]
      rw [et, List.mem_append, hmm r, fm r]
      constructor
      · rintro (⟨p, hp, x, e, s⟩ | ⟨x, e, s⟩)
        · exact ⟨p, List.mem_append_left _ hp, x, e, s⟩
        · exact ⟨q, List.mem_append_right _ (List.mem_singleton.mpr rfl), x, e, s⟩
      · rintro ⟨p, hp, x, e, s⟩
        rcases List.mem_append.mp hp with hp | hp
        · exact .inl ⟨p, hp, x, e, s⟩
        · rw [List.mem_singleton.mp hp] at e s; exact .inr ⟨x, e, s⟩
    · intro env u2 ⟨hu, more, x5, x6, he, hml, hmm⟩
      subst hu he
      rw [List.take_length] at hmm
      exact ⟨rfl, more, x5, x6, rfl, by omega, hmm⟩
    · intro o u2 ⟨hu, more, x5, x6, ho, hml, hmm⟩
      subst hu ho
      by_cases c : (300 : Int) < (more.length : Int)
      · simp! [c]
        exact ⟨trivial, .inl trivial⟩
      · simp! [c]
        refine ⟨trivial, more, _, _, _, _, rfl, by omega, fun r => ?_⟩
        rw [hmm r]
        constructor
        · rintro ⟨q, hq, x, rfl, s⟩
          exact okR_app ht1 ((hmem q).mp hq) s
        · intro o
          obtain ⟨q, x, e, oq, s⟩ := okR_cut ht1 o
          exact ⟨q, (hmem q).mpr oq, x, e, s⟩
  · intro env u' ⟨hu, rows, x3, x4, x5, x6, he, hlen, hmem⟩
    subst hu he
    simp! []
    rw [show 1 + (bs.length - 1) = bs.length by omega] at hmem
    exact ⟨trivial, .inr ⟨rows, rfl, hlen, hmem⟩⟩
/-- a whole run by caps is between the reaches -/
theorem okR_pa {r : List Int} (o : OkR bs cs bs.length r) {i : Nat} : ∀ {j : Nat}, i ≤ j → j < bs.length → pA cs j - pA cs i ≤ nth r j - nth r i ∧ nth r j - nth r i ≤ pB cs j - pB cs i := by
  intro j
  induction j with
  | zero =>
    intro h1 _
    have e : i = 0 := by omega
    subst e
    omega
  | succ j ih =>
    intro h1 h2
    have hl := hc.len
    by_cases e : i = j + 1
    · subst e; omega
    · obtain ⟨a1, a2⟩ := ih (by omega) (by omega)
      obtain ⟨b1, b2⟩ := o.stp j h2
      have pa1 : pA cs (j + 1) = pA cs j + (at_ cs j).1 := pa_succ (s := (·.1)) (by omega)
      have pa2 : pB cs (j + 1) = pB cs j + (at_ cs j).2 := pa_succ (s := (·.2)) (by omega)
      omega
theorem okR_in {r : List Int} (o : OkR bs cs bs.length r) {p : Nat} (hp : p < bs.length) : least bs cs p ≤ nth r p ∧ nth r p ≤ great bs cs p := by
  constructor
  · refine least_le (fun i hi => ?_) fun i hi hl => ?_
    · have a := okR_pa h hc o hi hp
      have b := o.ins i (by omega)
      omega
    · have a := okR_pa h hc o hi hl
      have b := o.ins i hl
      omega
  · refine great_ge (fun i hi => ?_) fun i hi hl => ?_
    · have a := okR_pa h hc o hi hp
      have b := o.ins i (by omega)
      omega
    · have a := okR_pa h hc o hi hl
      have b := o.ins i hl
      omega
theorem great_step {p : Nat} (hp : p + 1 < bs.length) : (at_ cs p).1 ≤ great bs cs (p + 1) - great bs cs p ∧ great bs cs (p + 1) - great bs cs p ≤ (at_ cs p).2 := by
  have hl := hc.len
  have pa1 : pA cs (p + 1) = pA cs p + (at_ cs p).1 := pa_succ (s := (·.1)) (by omega)
  have pa2 : pB cs (p + 1) = pB cs p + (at_ cs p).2 := pa_succ (s := (·.2)) (by omega)
  have hab := (hc.ok _ (at_mem (bs := cs) (i := p) (by omega))).2.1
  constructor
  · have m2 := mn_le2 (fG bs cs p) (great bs cs (p + 1) - (at_ cs p).1)
    rw [great_s h hc hp] at m2
    omega
  · have : great bs cs (p + 1) - (at_ cs p).2 ≤ great bs cs p := great_ge (fun i hi => by
      have := great_le1 (bs := bs) (cs := cs) (p := p + 1) (i := i) (by omega)
      omega) fun i hi hl' => by
        by_cases e : i = p
        · subst e
          have := great_le1 (bs := bs) (cs := cs) (p := i + 1) (i := i) (by omega)
          omega
        · have := great_le2 (bs := bs) (cs := cs) (p := p + 1) (i := i) (by omega) hl'
          omega
    omega
theorem ext_ok (f : Nat → Int) (hi : ∀ p, p < bs.length → (at_ bs p).1 ≤ f p ∧ f p ≤ (at_ bs p).2) (hs : ∀ p, p + 1 < bs.length → (at_ cs p).1 ≤ f (p + 1) - f p ∧ f (p + 1) - f p ≤ (at_ cs p).2) : OkR bs cs bs.length ((List.range bs.length).map f) := by
  have e : ∀ i, i < bs.length → nth ((List.range bs.length).map f) i = f i := fun i hi => by
    rw [← nth_get (by simp; exact hi), List.getElem_map, List.getElem_range]
  refine ⟨by simp, fun i hi' => by rw [e i hi']; exact hi i hi', fun i hi' => by rw [e i (by omega), e (i + 1) hi']; exact hs i hi'⟩
theorem great_in (c : Can bs cs) {p : Nat} (hp : p < bs.length) : (at_ bs p).1 ≤ great bs cs p ∧ great bs cs p ≤ (at_ bs p).2 := by
  have := c p hp
  have a1 := least_ge1 (bs := bs) (cs := cs) (p := p) (i := p) (by omega)
  have b1 := great_le1 (bs := bs) (cs := cs) (p := p) (i := p) (by omega)
  omega
theorem runs_ext (can : Can bs cs) {rows : List (List Int)} (hm : ∀ r, r ∈ rows ↔ OkR bs cs bs.length r) {p : Nat} (hp : p < bs.length) : rows ≠ [] ∧ minL (rows.map fun r => nth r p) = least bs cs p ∧ maxL (rows.map fun r => nth r p) = great bs cs p := by
  have m1 := (hm _).mpr (ext_ok h hc (least bs cs) (fun p hp => least_in h hc can hp) fun p hp => least_step h hc hp)
  have m2 := (hm _).mpr (ext_ok h hc (great bs cs) (fun p hp => great_in h hc can hp) fun p hp => great_step h hc hp)
  have e : ∀ (f : Nat → Int), nth ((List.range bs.length).map f) p = f p := fun f => by
    rw [← nth_get (by simp; exact hp), List.getElem_map, List.getElem_range]
  have hne : rows ≠ [] := fun e => by rw [e] at m1; cases m1
  have hne2 : (rows.map fun r => nth r p) ≠ [] := by simpa using hne
  refine ⟨hne, ?_, ?_⟩
  · apply Int.le_antisymm
    · have := minL_le (List.mem_map.mpr ⟨_, m1, rfl⟩ : _ ∈ rows.map fun r => nth r p)
      rwa [e] at this
    · obtain ⟨r, hr, er⟩ := List.mem_map.mp (minL_mem hne2)
      rw [← er]
      exact (okR_in h hc ((hm r).mp hr) hp).1
  · apply Int.le_antisymm
    · obtain ⟨r, hr, er⟩ := List.mem_map.mp (maxL_mem hne2)
      rw [← er]
      exact (okR_in h hc ((hm r).mp hr) hp).2
    · have := le_maxL (List.mem_map.mpr ⟨_, m2, rfl⟩ : _ ∈ rows.map fun r => nth r p)
      rwa [e] at this
end
end Lx

end Part_k77K4

section Part_k77K5
set_option maxRecDepth 100000
set_option maxHeartbeats 2000000
/-! K5: what the law asks of bounds and caps. -/
namespace Lx
open Lv PySem
def tD (bs cs : BS) (p : Nat) : D := if canB bs cs = true then reachD bs cs p else .non
theorem perm_kw (a b c : D) : permOf C 0 [a, b, c] = some [c, b, a] := nr rfl
theorem pn_reach (bs cs : BS) (p : Nat) : Pn 2 (reachD bs cs p) := pn_tup2 (pn_Q _) (pn_Q _)
theorem pn_tD (bs cs : BS) (p : Nat) : Pn 2 (tD bs cs p) := by
  unfold tD
  split
  · exact pn_reach bs cs p
  · exact .non _
theorem pr_t (p : Int × Int) : pr p = .tup [.int p.1, .int p.2] := rfl
theorem flat_non (n : Nat) : (List.replicate n [D.non]).flatten = (List.range n).map fun _ => D.non := by
  induction n with
  | zero => rfl
  | succ n ih =>
    rw [List.replicate_succ', List.flatten_append, ih, List.range_succ, List.map_append]
    simp
theorem flat_two (d : D) : (List.replicate 2 [d]).flatten = [d, d] := rfl
theorem pn_pr (p : Int × Int) : Pn 1 (pr p) := pn_tup2 (.int _ _) (.int _ _)
theorem pn_runD {bs cs : BS} (h9 : bs.length ≤ 9) : Pn 2 (runD bs cs) := by
  unfold runD
  refine pn_tup (fun p _ => pn_Q _) (by simp; omega)
section
variable {bs cs : BS} (h : OkB bs) (hc : OkC bs cs)
include h hc
/-- wider caps -/
def wideC (cs : BS) : BS := cs.map fun p => (mx (0 - 9999) (p.1 - 1), mn 9999 (p.2 + 2))
theorem wide_at {i : Nat} (hi : i < cs.length) : at_ (wideC cs) i = (mx (0 - 9999) ((at_ cs i).1 - 1), mn 9999 ((at_ cs i).2 + 2)) := by
  unfold wideC
  rw [at_get (by simp; exact hi), List.getElem_map, at_get hi]
theorem wide_ok : OkC bs (wideC cs) := by
  refine ⟨by unfold wideC; rw [List.length_map]; exact hc.len, fun p hp => ?_⟩
  obtain ⟨q, hq, rfl⟩ := List.mem_map.mp hp
  obtain ⟨o1, o2, o3⟩ := hc.ok q hq
  have a1 := le_mx1 (0 - 9999) (q.1 - 1)
  have a2 := mn_le1 9999 (q.2 + 2)
  have a3 := mx_le (a := 0 - 9999) (b := q.1 - 1) (x := q.1) (by omega) (by omega)
  have a4 := le_mn (a := 9999) (b := q.2 + 2) (x := q.2) (by omega) (by omega)
  exact ⟨by show -9999 ≤ mx (0 - 9999) (q.1 - 1); omega, by show mx (0 - 9999) (q.1 - 1) ≤ mn 9999 (q.2 + 2); omega, a2⟩
/-- caps that hold those of others -/
theorem pa_mono {cs2 : BS} (hl : cs2.length = cs.length) (hs : ∀ i, i < cs.length → (at_ cs2 i).1 ≤ (at_ cs i).1 ∧ (at_ cs i).2 ≤ (at_ cs2 i).2) {i : Nat} : ∀ {j : Nat}, i ≤ j → j ≤ cs.length → pA cs2 j - pA cs2 i ≤ pA cs j - pA cs i ∧ pB cs j - pB cs i ≤ pB cs2 j - pB cs2 i := by
  intro j
  induction j with
  | zero => intro h1 _; have e : i = 0 := by omega
            subst e; omega
  | succ j ih =>
    intro h1 h2
    by_cases e : i = j + 1
    · subst e; omega
    · obtain ⟨a1, a2⟩ := ih (by omega) (by omega)
      obtain ⟨b1, b2⟩ := hs j (by omega)
      have p1 : pA cs (j + 1) = pA cs j + (at_ cs j).1 := pa_succ (s := (·.1)) (by omega)
      have p2 : pB cs (j + 1) = pB cs j + (at_ cs j).2 := pa_succ (s := (·.2)) (by omega)
      have p3 : pA cs2 (j + 1) = pA cs2 j + (at_ cs2 j).1 := pa_succ (s := (·.1)) (by omega)
      have p4 : pB cs2 (j + 1) = pB cs2 j + (at_ cs2 j).2 := pa_succ (s := (·.2)) (by omega)
      omega
theorem least_mono {cs2 : BS} (hl : cs2.length = cs.length) (hs : ∀ i, i < cs.length → (at_ cs2 i).1 ≤ (at_ cs i).1 ∧ (at_ cs i).2 ≤ (at_ cs2 i).2) {p : Nat} (hp : p < bs.length) : least bs cs2 p ≤ least bs cs p ∧ great bs cs p ≤ great bs cs2 p := by
  have hlen := hc.len
  constructor
  · refine least_le (fun i hi => ?_) fun i hi hl' => ?_
    · have := (pa_mono h hc hl hs hi (by omega)).1
      have := least_ge1 (bs := bs) (cs := cs) hi
      omega
    · have := (pa_mono h hc hl hs hi (by omega)).2
      have := least_ge2 (bs := bs) (cs := cs) hi hl'
      omega
  · refine great_ge (fun i hi => ?_) fun i hi hl' => ?_
    · have := (pa_mono h hc hl hs hi (by omega)).2
      have := great_le1 (bs := bs) (cs := cs) hi
      omega
    · have := (pa_mono h hc hl hs hi (by omega)).1
      have := great_le2 (bs := bs) (cs := cs) hi hl'
      omega
theorem can_mono {cs2 : BS} (hl : cs2.length = cs.length) (hs : ∀ i, i < cs.length → (at_ cs2 i).1 ≤ (at_ cs i).1 ∧ (at_ cs i).2 ≤ (at_ cs2 i).2) (can : Can bs cs) : Can bs cs2 := fun p hp => by
  obtain ⟨a, b⟩ := least_mono h hc hl hs hp
  have := can p hp
  omega
theorem canB_of (can : Can bs cs) : canB bs cs = true := (can_all h hc).mpr can
theorem canB_not (can : ¬ Can bs cs) : canB bs cs = false := by
  cases q : canB bs cs with
  | true => exact absurd ((can_all h hc).mp q) can
  | false => rfl
/-- the sides of all caps -/
theorem low_high : ∃ lo hi, minL (cs.map (·.1)) = lo ∧ maxL (cs.map (·.2)) = hi ∧ OkP (lo, hi) ∧ ∀ i, i < cs.length → lo ≤ (at_ cs i).1 ∧ (at_ cs i).2 ≤ hi := by
  have hl := hc.len
  have h2 := h.two
  have hne : cs ≠ [] := fun e => by rw [e] at hl; simp at hl; omega
  have n1 : cs.map (·.1) ≠ [] := by simpa using hne
  have n2 : cs.map (·.2) ≠ [] := by simpa using hne
  have all : ∀ i, i < cs.length → minL (cs.map (·.1)) ≤ (at_ cs i).1 ∧ (at_ cs i).2 ≤ maxL (cs.map (·.2)) := fun i hi => ⟨minL_le (List.mem_map.mpr ⟨_, at_mem hi, rfl⟩), le_maxL (List.mem_map.mpr ⟨_, at_mem hi, rfl⟩)⟩
  refine ⟨_, _, rfl, rfl, ?_, all⟩
  obtain ⟨p, hp, e1⟩ := List.mem_map.mp (minL_mem n1)
  obtain ⟨q, hq, e2⟩ := List.mem_map.mp (maxL_mem n2)
  have o1 := hc.ok p hp
  have o2 := hc.ok q hq
  obtain ⟨a1, a2⟩ := all 0 (by omega)
  have o3 := hc.ok _ (at_mem (show 0 < cs.length by omega))
  obtain ⟨x1, x2, x3⟩ := o1
  obtain ⟨y1, y2, y3⟩ := o2
  obtain ⟨z1, z2, z3⟩ := o3
  refine ⟨?_, ?_, ?_⟩
  · show -9999 ≤ minL (cs.map (·.1)); omega
  · show minL (cs.map (·.1)) ≤ maxL (cs.map (·.2)); omega
  · show maxL (cs.map (·.2)) ≤ 9999; omega
def envT (bs cs : BS) (c : Nat) (told : D) (r1 : D) (x4 x5 x6 x7 x8 x11 x12 x13 x14 x15 x16 : Sl) : Lv.Env := [.val (.cell c), .val (bnds bs), .val (bnds cs), .val told, x4, x5, x6, x7, x8, .val r1, .val (.int (bs.length : Int)), x11, x12, x13, x14, x15, x16, .no]
theorem told_1 (k : Nat) {n : Nat} {u : U} {c : Nat} (w : Wl (n + 20) u c) : Wp (denSs C (rn (k + 8)) (takeS 4 b46) [.val (.cell c), .val (bnds bs), .val (bnds cs), .no, .no, .no, .no, .no, .no, .no, .no, .no, .no, .no, .no, .no, .no, .no] u) fun o u1 => ∃ e, o = .nxt e ∧ Wl (n + 1) u1 c ∧ ∃ r1 x, ((Can bs cs ∧ r1 = .lst ((rows bs cs).map pr)) ∨ (¬ Can bs cs ∧ r1 = .non)) ∧ e = envT bs cs c (.lst ((List.range bs.length).map (tD bs cs))) r1 x .no .no .no .no .no .no .no .no .no .no := by
  have h9 := h.nine
  obtain ⟨r1, u1, e1, hq1⟩ := (law_reaches h hc (k + 7) u).of
  obtain ⟨hu1, hr1⟩ := hq1
  subst hu1
  unfold b46 takeS takeS takeS takeS takeS
  simp! [e1, b_len]
  refine forRun_any (fun i env u' => Wl (n + 20 - i) u' c ∧ ∃ x, env = [.val (.cell c), .val (bnds bs), .val (bnds cs), .own ((List.range i).map (tD bs cs)), x, .no, .no, .no, .no, .val r1, .val (.int (bs.length : Int)), .no, .no, .no, .no, .no, .no, .no]) ⟨w, _, rfl⟩ ?_ ?_
  · intro i env u' hi ⟨w, x, he⟩
    subst he
    obtain ⟨n1, hn1⟩ : ∃ n1, n + 20 - i = n1 + 1 := ⟨n + 20 - i - 1, by omega⟩
    rw [hn1] at w
    obtain ⟨j, u3, e3, _, _, w3⟩ := law_take (k + 7) (m := 2) w (by decide) (by decide)
    have e4 := caps_reach h hc k u3 hi
    have w4 : Wl (n + 20 - (i + 1)) u3 c := by rw [show n + 20 - (i + 1) = n1 by omega]; exact w3
    have et : (if canB bs cs = true then reachD bs cs i else D.non) = tD bs cs i := rfl
    rw [et] at e4
    by_cases c0 : j = 0
    · simp! [e3, c0, e4, map_range_succ]
      exact ⟨w4, _, rfl⟩
    · simp! [e3, c0, perm_kw, e4, map_range_succ]
      exact ⟨w4, _, rfl⟩
  · intro env u' ⟨w, x, he⟩
    subst he
    simp! []
    exact ⟨_, rfl, w.mono (by omega), r1, x, hr1, rfl⟩
theorem told_not (can : ¬ Can bs cs) (k : Nat) {n : Nat} {u : U} {c : Nat} (w : Wl n u c) (x : Sl) : Wp (denSs C (rn (k + 8)) (dropS 4 b46) (envT bs cs c (.lst ((List.range bs.length).map (tD bs cs))) .non x .no .no .no .no .no .no .no .no .no .no) u) fun o u1 => Wp (endO o u1) fun r u' => r = .bl true ∧ Wl n u' c := by
  have h9 := h.nine
  have cb := canB_not h hc can
  have e : (List.range bs.length).map (tD bs cs) = (List.range bs.length).map fun _ => D.non := by
    refine List.map_congr_left fun p _ => ?_
    unfold tD; rw [if_neg (by rw [cb]; decide)]
  have sm : ∀ u, rn (k + 8) 40 [.lst ((List.range bs.length).map fun _ => D.non), .lst ((List.range bs.length).map fun _ => D.non)] u = .ok (.bl true) u := fun u => law_same (k + 4) u (pn_lst (n := 2) (fun p _ => .non _) (by simp; omega))
  have ck := can_keep_caps h hc k u
  have cb2 : ((List.range bs.length).all fun p => decide (least bs cs p ≤ great bs cs p)) = false := cb
  rw [cb2] at ck
  have rp : repD (.lst [.non]) (.int (bs.length : Int)) u = .ok ((List.range bs.length).map fun _ => D.non) u := by
    rw [rep_l (by omega) (by simp), flat_non]
  rw [e]
  unfold envT b46 dropS dropS dropS dropS dropS
  simp! [rp, sm, ck, beq_self_eq_true]
  exact ⟨trivial, w⟩
theorem told_2 (can : Can bs cs) (k : Nat) {u : U} {c : Nat} (x : Sl) : Wp (denSs C (rn (k + 8)) (takeS 3 (dropS 4 b46)) (envT bs cs c (.lst ((List.range bs.length).map (reachD bs cs))) (.lst ((rows bs cs).map pr)) x .no .no .no .no .no .no .no .no .no .no) u) fun o u1 => ∃ e, o = .nxt e ∧ u1 = u ∧ ∃ x4 x11 x14, e = envT bs cs c (.lst ((List.range bs.length).map (reachD bs cs))) (.lst ((rows bs cs).map pr)) x4 .no .no .no .no x11 .no .no x14 .no .no := by
  have h9 := h.nine
  have h2 := h.two
  have due : (rows bs cs).map (fun q => D.tup [.tup [.int q.1, .int 1], .tup [.int q.2, .int 1]]) = (List.range bs.length).map (reachD bs cs) := by
    unfold rows; rw [List.map_map]; rfl
  have sm : ∀ u, rn (k + 8) 40 [.lst ((List.range bs.length).map (reachD bs cs)), .lst ((List.range bs.length).map (reachD bs cs))] u = .ok (.bl true) u := fun u => law_same (k + 4) u (pn_lst (n := 2) (fun p _ => pn_reach bs cs p) (by simp; omega))
  have rl : (rows bs cs).length ≤ 1000000 := by unfold rows; simp; omega
  have rl2 : (rows bs cs).length = bs.length := by unfold rows; simp
  unfold envT b46 dropS dropS dropS dropS dropS takeS takeS takeS takeS
  simp! [rl]
  rw [lcA_some (g := fun q => D.tup [.tup [.int q.1, .int 1], .tup [.int q.2, .int 1]]) (fun q hq u => by simp! [pr0, pr1]), due]
  simp! [sm, b_its]
  rw [lcA_some (g := fun p => D.int (p.2 - p.1)) (fun q hq u => by simp! [T_pair])]
  have mxw := max_m u (fun p : Int × Int => p.2 - p.1) (xs := bs) (by omega)
  by_cases hw : maxL (bs.map fun p => p.2 - p.1) < 7
  · have hW : ∀ p ∈ bs, p.2 - p.1 < 7 := fun p hp => by
      have := le_maxL (List.mem_map.mpr ⟨p, hp, rfl⟩ : p.2 - p.1 ∈ bs.map fun p => p.2 - p.1)
      omega
    obtain ⟨r2, u2, e2, hu2, hr2⟩ := (law_runs h hc hW (k + 7) u).of
    subst hu2
    rcases hr2 with rfl | ⟨rws, rfl, hlen, hmem⟩
    · simp! [mxw, hw, e2]
      exact ⟨_, rfl, trivial, _, _, _, rfl⟩
    · simp! [mxw, hw, e2]
      refine forRun_any (fun i env u' => u' = u2 ∧ ∃ x4 x14, env = envT bs cs c (.lst ((List.range bs.length).map (reachD bs cs))) (.lst ((rows bs cs).map pr)) x4 .no .no .no .no (.val (.lst (rws.map rowD))) .no .no x14 .no .no) ⟨rfl, _, _, rfl⟩ ?_ ?_
      · intro i env u' hi ⟨hu, x4, x14, he⟩
        subst hu he
        obtain ⟨g1, g2, g3⟩ := runs_ext h hc can hmem hi
        have g0 : 0 < rws.length := List.length_pos_iff.mpr g1
        have ir := l_idx u' (rs := rows bs cs) (i := i) (by rw [rl2]; exact hi)
        have ir2 : at_ (rows bs cs) i = (least bs cs i, great bs cs i) := map_range_at hi
        rw [ir2, pr_t] at ir
        unfold envT
        simp! [hlen]
        rw [lcA_some (g := fun r => D.int (nth r i)) (fun r hr u => by
          have e := row_at u (r := r) (i := i) (by rw [((hmem r).mp hr).len]; exact hi)
          simp! [e])]
        have m1 := min_m u' (fun r => nth r i) g0
        have m2 := max_m u' (fun r => nth r i) g0
        rw [g2] at m1
        rw [g3] at m2
        have ne := ne_run (pn_tup2 (.int 0 (least bs cs i)) (.int 0 (great bs cs i))) (pn_tup2 (.int 0 (least bs cs i)) (.int 0 (great bs cs i))) (by decide) (by decide)
        rw [eqt_refl (pn_tup2 (.int 0 (least bs cs i)) (.int 0 (great bs cs i)))] at ne
        simp! [m1, m2, ir, ne]
        exact ⟨trivial, _, _, rfl⟩
      · intro env u' ⟨hu, x4, x14, he⟩
        subst hu he
        unfold envT
        simp! []
        exact ⟨_, rfl, trivial, _, _, _, rfl⟩
  · simp! [mxw, hw]
    exact ⟨_, rfl, trivial, _, _, _, rfl⟩
theorem told_3 (can : Can bs cs) (k : Nat) {n : Nat} {u : U} {c : Nat} (w : Wl (n + 1) u c) (x4 x11 x14 : Sl) : Wp (denSs C (rn (k + 8)) (dropS 3 (dropS 4 b46)) (envT bs cs c (.lst ((List.range bs.length).map (reachD bs cs))) (.lst ((rows bs cs).map pr)) x4 .no .no .no .no x11 .no .no x14 .no .no) u) fun o u1 => Wp (endO o u1) fun r u' => r = .bl true ∧ Wl n u' c := by
  have h9 := h.nine
  have h2 := h.two
  have hl := hc.len
  have cb := canB_of h hc can
  have cr := caps_run h hc k u
  have cb2 : ((List.range bs.length).all fun p => decide (least bs cs p ≤ great bs cs p)) = true := cb
  rw [cb2, if_pos rfl] at cr
  have rd : D.tup ((List.range bs.length).map fun p => Q ((least bs cs p : Int) : Rat)) = runD bs cs := rfl
  have ne1 := ne_run (pn_runD (cs := cs) h9) (pn_runD (cs := cs) h9) (by decide) (by decide)
  rw [eqt_refl (pn_runD (cs := cs) h9)] at ne1
  have i0 : idxD u (.lst ((List.range bs.length).map (reachD bs cs))) (.int 0) = some (reachD bs cs 0) := by
    rw [idx_ml0 u (reachD bs cs) (by simp; omega)]
    congr 2
    rw [getElem!_pos _ _ (by simp; omega), List.getElem_range]
  have iL : idxD u (.lst ((List.range bs.length).map (reachD bs cs))) (.int (-1)) = some (reachD bs cs (bs.length - 1)) := by
    rw [idx_mlL u (reachD bs cs) (by simp; omega)]
    congr 2
    rw [getElem!_pos _ _ (by simp; omega), List.getElem_range]
    simp
  have l0 : least bs cs 0 = great bs cs 0 := by
    have a := least_in h hc can (p := 0) (by omega)
    have b := great_in h hc can (p := 0) (by omega)
    have f := h.first
    omega
  have lL : least bs cs (bs.length - 1) = (at_ bs (bs.length - 1)).1 ∧ great bs cs (bs.length - 1) = (at_ bs (bs.length - 1)).1 := by
    have a := least_in h hc can (p := bs.length - 1) (by omega)
    have b := great_in h hc can (p := bs.length - 1) (by omega)
    have f := h.last
    omega
  have ne2 : CmpO.run .ne (Q ((least bs cs 0 : Int) : Rat)) (Q ((great bs cs 0 : Int) : Rat)) = some false := by
    rw [l0, ne_run (pn_Q _) (pn_Q _) (by decide) (by decide), eqt_refl (pn_Q _)]; rfl
  have ib := b_idxL u (bs := bs) (by omega)
  have eL : reachD bs cs (bs.length - 1) = .tup [.tup [.int (at_ bs (bs.length - 1)).1, .int 1], .tup [.int (at_ bs (bs.length - 1)).1, .int 1]] := by
    unfold reachD
    rw [lL.1, lL.2]; rfl
  have ne3 := ne_run (pn_reach bs cs (bs.length - 1)) (pn_reach bs cs (bs.length - 1)) (by decide) (by decide)
  rw [eqt_refl (pn_reach bs cs (bs.length - 1)), eL] at ne3
  have m2 : BinO.run .mul (.tup [.tup [.int (at_ bs (bs.length - 1)).1, .int 1]]) (.int 2) = some (.tup [.tup [.int (at_ bs (bs.length - 1)).1, .int 1], .tup [.int (at_ bs (bs.length - 1)).1, .int 1]]) := mul_t (n := 2) (by decide) (by decide) (by simp) (by simp)
  have f0 : ∀ u, idxD u (reachD bs cs 0) (.int 0) = some (Q ((least bs cs 0 : Int) : Rat)) := fun u => rfl
  have f1 : ∀ u, idxD u (reachD bs cs 0) (.int 1) = some (Q ((great bs cs 0 : Int) : Rat)) := fun u => rfl
  have csl : cs.length ≤ 1000000 := by omega
  unfold envT b46 dropS dropS dropS dropS dropS dropS dropS dropS dropS
  simp! []
  rw [lcA_some (g := fun p => Q ((least bs cs p : Int) : Rat)) (fun q hq u => by
    have e : idxD u (reachD bs cs q) (.int 0) = some (Q ((least bs cs q : Int) : Rat)) := rfl
    simp! [e])]
  simp! [rd, cr, ne1, i0, f0, f1, ne2, iL, ib, pr0, m2, eL, ne3, b_its, csl]
  rw [lcA_some (g := fun p => pr (mx (0 - 9999) (p.1 - 1), mn 9999 (p.2 + 2))) (fun q hq u => by
    simp! [pr0, pr1, max2_mx, min2_mn]
    rfl)]
  have eW : D.tup (cs.map fun p => pr (mx (0 - 9999) (p.1 - 1), mn 9999 (p.2 + 2))) = bnds (wideC cs) := by
    unfold bnds wideC; rw [List.map_map]; rfl
  obtain ⟨j0, u3, e3, hj0, hj, w3⟩ := law_take (k + 7) (m := (bs.length : Int)) w (by omega) (by omega)
  obtain ⟨j, rfl⟩ : ∃ j : Nat, j0 = j := ⟨j0.toNat, by omega⟩
  have hj : j < bs.length := by omega
  have hwo := wide_ok h hc
  have hws : ∀ i, i < cs.length → (at_ (wideC cs) i).1 ≤ (at_ cs i).1 ∧ (at_ cs i).2 ≤ (at_ (wideC cs) i).2 := fun i hi => by
    obtain ⟨o1, o2, o3⟩ := hc.ok _ (at_mem hi)
    rw [wide_at h hc hi]
    exact ⟨mx_le (by omega) (by omega), le_mn (by omega) (by omega)⟩
  have hwl : (wideC cs).length = cs.length := by unfold wideC; simp
  have e4 := caps_reach h hwo k u3 hj
  rw [if_pos (canB_of h hwo (can_mono h hc hwl hws can))] at e4
  obtain ⟨n1, n2⟩ := least_mono h hc hwl hws hj
  have ij : idxD u3 (.lst ((List.range bs.length).map (reachD bs cs))) (.int (j : Int)) = some (reachD bs cs j) := by
    rw [idx_ml u3 (reachD bs cs) (by simp; omega)]
    congr 2
    rw [getElem!_pos _ _ (by simp; omega), List.getElem_range]
  have fj0 : ∀ u, idxD u (reachD bs cs j) (.int 0) = some (Q ((least bs cs j : Int) : Rat)) := fun u => rfl
  have fj1 : ∀ u, idxD u (reachD bs cs j) (.int 1) = some (Q ((great bs cs j : Int) : Rat)) := fun u => rfl
  have gj0 : ∀ u, idxD u (reachD bs (wideC cs) j) (.int 0) = some (Q ((least bs (wideC cs) j : Int) : Rat)) := fun u => rfl
  have gj1 : ∀ u, idxD u (reachD bs (wideC cs) j) (.int 1) = some (Q ((great bs (wideC cs) j : Int) : Rat)) := fun u => rfl
  have sz : ∀ x : Int, (at_ bs j).1 ≤ x → x ≤ (at_ bs j).2 → Qs 20 (x : Rat) := fun x a b => by
    obtain ⟨o1, o2, o3⟩ := h.ok _ (at_mem hj)
    exact Bd.qs ⟨by omega, by omega⟩
  have cw := can_mono h hc hwl hws can
  have a1 := least_in h hc can hj
  have a2 := great_in h hc can hj
  have a3 := least_in h hwo cw hj
  have a4 := great_in h hwo cw hj
  have t1 := r_law_below (k + 7) u3 (sz _ a1.1 a1.2) (sz _ a3.1 a3.2) (by decide)
  have t2 := r_law_below (k + 7) u3 (sz _ a4.1 a4.2) (sz _ a2.1 a2.2) (by decide)
  rw [decide_eq_false (fun z => by have := Rat.intCast_lt_intCast.mp z; omega)] at t1 t2
  obtain ⟨lo, hi, elo, ehi, hlh, hall⟩ := low_high h hc
  have alk := alike_ok h hlh
  have hal : (alike (bs.length - 1) lo hi).length = cs.length := by unfold alike; simp; omega
  have has : ∀ i, i < cs.length → (at_ (alike (bs.length - 1) lo hi) i).1 ≤ (at_ cs i).1 ∧ (at_ cs i).2 ≤ (at_ (alike (bs.length - 1) lo hi) i).2 := fun i hic => by
    have e : at_ (alike (bs.length - 1) lo hi) i = (lo, hi) := by
      unfold alike
      rw [at_get (by simp; omega), List.getElem_replicate]
    rw [e]; exact hall i hic
  have ca := can_mono h hc hal has can
  have e5 := caps_reach h alk k u3 hj
  rw [if_pos (canB_of h alk ca)] at e5
  have e6 := reach h hlh ((due_can h alk).mpr ca) k u3 hj
  have bA : D.tup (List.replicate (bs.length - 1) [pr (lo, hi)]).flatten = bnds (alike (bs.length - 1) lo hi) := by
    unfold bnds alike
    rw [List.map_replicate]
    congr 1
    generalize bs.length - 1 = z
    induction z with
    | zero => rfl
    | succ z ih => rw [List.replicate_succ, List.replicate_succ, List.flatten_cons, ih]; rfl
  have mA : BinO.run .mul (.tup [.tup [.int lo, .int hi]]) (.int ((bs.length : Int) - 1)) = some (bnds (alike (bs.length - 1) lo hi)) := by
    rw [show (bs.length : Int) - 1 = ((bs.length - 1 : Nat) : Int) by omega, ← bA]
    exact mul_t (by omega) (by omega) (by simp) (by simp)
  have cs0 : 0 < cs.length := by omega
  have mi := min_m u3 (fun p : Int × Int => p.1) cs0
  have ma := max_m u3 (fun p : Int × Int => p.2) cs0
  rw [elo] at mi
  rw [ehi] at ma
  have q1 : D.tup [.int lo, .int 1] = Q (lo : Rat) := rfl
  have q2 : D.tup [.int hi, .int 1] = Q (hi : Rat) := rfl
  have sm := law_same (k + 5) u3 (pn_reach bs (alike (bs.length - 1) lo hi) j)
  simp! [eW, e3, e4, ij, fj0, fj1, gj0, gj1, t1, t2, b_its, csl]
  rw [lcA_some (g := fun p => D.int p.1) (fun q hq u => by simp! [pr0])]
  simp! [mi, b_its, csl]
  rw [lcA_some (g := fun p => D.int p.2) (fun q hq u => by simp! [pr1])]
  simp! [ma, mA, e5, q1, q2, e6, sm]
  exact ⟨trivial, w3⟩
theorem told_wp (k : Nat) {n : Nat} {u : U} {c : Nat} (w : Wl (n + 20) u c) : ∃ u', rn (k + 9) 46 [.cell c, bnds bs, bnds cs] u = .ok (.bl true) u' ∧ Wl n u' c := by
  have key : Wp (rn (k + 9) 46 [.cell c, bnds bs, bnds cs] u) fun r u' => r = .bl true ∧ Wl n u' c := by
    rw [run_to (f := f46) (body := b46) (env := [.val (.cell c), .val (bnds bs), .val (bnds cs), .no, .no, .no, .no, .no, .no, .no, .no, .no, .no, .no, .no, .no, .no, .no]) rfl rfl rfl rfl]
    refine wp_end (wp_nxt 4 (told_1 h hc k w) fun e u1 ⟨w1, r1, x, hr, he⟩ => ?_)
    subst he
    rcases hr with ⟨can, rfl⟩ | ⟨can, rfl⟩
    · have tDe : (List.range bs.length).map (tD bs cs) = (List.range bs.length).map (reachD bs cs) := by
        refine List.map_congr_left fun p _ => ?_
        unfold tD; rw [if_pos (canB_of h hc can)]
      rw [tDe]
      refine wp_nxt 3 (told_2 h hc can k x) fun e u2 ⟨hu, x4, x11, x14, he⟩ => ?_
      subst he hu
      exact told_3 h hc can k w1 x4 x11 x14
    · exact told_not h hc can k (w1.mono (by omega)) x
  obtain ⟨r, u', e, hr, hw⟩ := key.of
  subst hr
  exact ⟨u', e, hw⟩
end
end Lx

end Part_k77K5

section Part_k77LW
set_option maxRecDepth 100000
set_option maxHeartbeats 4000000
/-! LW: two or three laps. -/
namespace Lx
open Lv PySem
theorem laps {K : Nat} (hR : ∀ (k : Nat) {u : U} {c : Nat}, Wl 1000000 u c → ∃ u', rn (k + K) 47 [.cell c] u = .ok (.bl true) u') (k : Nat) (ns : List Int) (hn : ns.length ≤ 63) (u : U) : Wp (rn (k + K + 2) 48 [.scr ns] u) fun r _ => r = .bl true := by
  have hm1 : ∃ m : Nat, mx 2 (mn (ns.length : Int) 3) = (m : Int) ∧ m ≤ 3 := by
    refine ⟨(mx 2 (mn (ns.length : Int) 3)).toNat, ?_, ?_⟩
    · have := le_mx1 2 (mn (ns.length : Int) 3)
      omega
    · have := mx_le (show (2 : Int) ≤ 3 by decide) (mn_le2 (ns.length : Int) 3)
      omega
  obtain ⟨m, hm, hm3⟩ := hm1
  rw [run_to (f := f48) (body := b48) (env := [.val (.scr ns), .no]) rfl rfl rfl rfl]
  unfold b48
  simp! [len_scr, min2_mn, max2_mx, hm]
  refine lcA_wp (fun i acc _ => acc = (List.range i).map fun _ => .bl true) rfl ?_ ?_
  · intro i x acc u1 hx hacc
    have hxi : x = i ∧ i < m := by
      obtain ⟨h1, h2⟩ := List.getElem?_eq_some_iff.mp hx
      rw [List.getElem_range] at h2
      exact ⟨h2.symm, by simpa using h1⟩
    obtain ⟨u2, c, e1, w⟩ := law_well (k + K) u1 (ns := ns) (lap := x) (by omega) (by omega)
    obtain ⟨u3, e2⟩ := hR (k + 1) w
    rw [show k + 1 + K = k + K + 1 by omega] at e2
    simp! [e1, e2]
    rw [hacc, List.range_succ, List.map_append]; rfl
  · intro acc u1 hacc
    subst hacc
    simp! [List.all_eq_true]
    simp
end Lx

end Part_k77LW

section Part_k77K6
set_option maxRecDepth 100000
set_option maxHeartbeats 4000000
/-! K6: the whole law. -/
namespace Lx
open Lv PySem
/-- bounds brought near to 0 -/
def nearB (bs : BS) : BS := bs.map fun p => (p.1 % 5, p.1 % 5 + mn 5 (p.2 - p.1))
theorem near_ok {bs : BS} (h : OkB bs) : OkB (nearB bs) := by
  have h2 := h.two
  have at' : ∀ i, i < bs.length → at_ (nearB bs) i = ((at_ bs i).1 % 5, (at_ bs i).1 % 5 + mn 5 ((at_ bs i).2 - (at_ bs i).1)) := fun i hi => by
    unfold nearB
    rw [at_get (by simp; exact hi), List.getElem_map, at_get hi]
  have len : (nearB bs).length = bs.length := by unfold nearB; simp
  refine ⟨by rw [len]; exact h2, by rw [len]; exact h.nine, fun p hp => ?_, ?_, ?_⟩
  · obtain ⟨q, hq, rfl⟩ := List.mem_map.mp hp
    obtain ⟨o1, o2, o3⟩ := h.ok q hq
    have a := mn_le1 5 (q.2 - q.1)
    have b := le_mn (a := 5) (b := q.2 - q.1) (x := 0) (by omega) (by omega)
    refine ⟨?_, ?_, ?_⟩
    · show -9999 ≤ q.1 % 5; omega
    · show q.1 % 5 ≤ q.1 % 5 + mn 5 (q.2 - q.1); omega
    · show q.1 % 5 + mn 5 (q.2 - q.1) ≤ 9999; omega
  · rw [at' 0 (by omega)]
    have := h.first
    show (at_ bs 0).1 % 5 = (at_ bs 0).1 % 5 + mn 5 ((at_ bs 0).2 - (at_ bs 0).1)
    rw [this, Int.sub_self]
    unfold mn
    rw [if_pos (by omega)]; omega
  · rw [len, at' (bs.length - 1) (by omega)]
    have := h.last
    show (at_ bs (bs.length - 1)).1 % 5 = (at_ bs (bs.length - 1)).1 % 5 + mn 5 ((at_ bs (bs.length - 1)).2 - (at_ bs (bs.length - 1)).1)
    rw [this, Int.sub_self]
    unfold mn
    rw [if_pos (by omega)]; omega
def tubeB : BS := [(0, 0), (0, 2), (0, 2), (3, 3)]
def tubeC : BS := [(0, 2), (0, 2), (0, 2)]
theorem tube_ok : OkB tubeB := ⟨by decide, by decide, by unfold OkP; decide, by decide, by decide⟩
theorem tubeC_ok : OkC tubeB tubeC := ⟨by decide, by unfold OkP; decide⟩
theorem law_right (k : Nat) {u : U} {c : Nat} (w : Wl 1000000 u c) : ∃ u', rn (k + 10) 47 [.cell c] u = .ok (.bl true) u' := by
  have key : Wp (rn (k + 10) 47 [.cell c] u) fun r u' => r = .bl true := by
    have r16 : rng1D (.int 16) = some ((List.range 16).map fun (i : Nat) => D.int i) := rng1_nat (n := 16) (by decide)
    rw [run_to (f := f47) (body := b47) (env := [.val (.cell c), .no, .no, .no, .no, .no]) rfl rfl rfl rfl]
    unfold b47
    simp! [r16]
    refine forRun_any (fun i env u' => i ≤ 16 ∧ Wl (1000000 - 200 * i) u' c ∧ ∃ x1 x3, env = [.val (.cell c), x1, .no, x3, .no, .no]) ⟨by omega, w, _, _, rfl⟩ ?_ ?_
    · intro i env u' hi ⟨hle, w, x1, x3, he⟩
      subst he
      obtain ⟨n1, hn1⟩ : ∃ n1, 1000000 - 200 * i = n1 + 20 + 60 + 30 := ⟨1000000 - 200 * i - 110, by omega⟩
      rw [hn1] at w
      by_cases c8 : i < 8
      · obtain ⟨bs, u1, e1, hb, _, w1⟩ := law_bounds (k + 6) (mm := 9) (by decide) w
        have e1' : rn (k + 9) 42 [.cell c, .int 9] u' = .ok (bnds bs) u1 := e1
        obtain ⟨cs, u2, e2, hc, w2⟩ := law_caps (k + 6) hb w1
        obtain ⟨u3, e3, w3⟩ := told_wp hb hc k w2
        have c1 : (i : Int) < 8 := by omega
        have c2 : ¬ (7 : Int) < (i : Int) := by omega
        simp! [c1, c2, e1', e2, e3]
        exact ⟨by omega, w3.mono (by omega), _, _, rfl⟩
      · obtain ⟨bs, u1, e1, hb, hl5, w1⟩ := law_bounds (k + 6) (mm := 5) (by decide) w
        have e1' : rn (k + 9) 42 [.cell c, .int 5] u' = .ok (bnds bs) u1 := e1
        have hnb := near_ok hb
        obtain ⟨cs, u2, e2, hc, w2⟩ := law_caps (k + 6) hnb w1
        obtain ⟨u3, e3, w3⟩ := told_wp hnb hc k w2
        have c1 : ¬ (i : Int) < 8 := by omega
        have c2 : (7 : Int) < (i : Int) := by omega
        have bl : bs.length ≤ 1000000 := by omega
        have en : D.tup (bs.map fun p => pr (p.1 % 5, p.1 % 5 + mn 5 (p.2 - p.1))) = bnds (nearB bs) := by
          unfold bnds nearB; rw [List.map_map]; rfl
        simp! [c1, c2, e1', b_its, bl]
        rw [lcA_some (g := fun p => pr (p.1 % 5, p.1 % 5 + mn 5 (p.2 - p.1))) (fun q hq u => by
          simp! [T_pair, mod_ii (i := q.1) (j := 5) (by decide), min2_mn]
          rfl)]
        simp! [en, e2, e3]
        exact ⟨by omega, w3.mono (by omega), _, _, rfl⟩
    · intro env u' ⟨hle, w, x1, x3, he⟩
      subst he
      have c1 := caps_reach tube_ok tubeC_ok (k + 1) u' (p := 1) (by decide)
      have cb : canB tubeB tubeC = true := by decide +kernel
      have e1 : least tubeB tubeC 1 = 0 := by decide +kernel
      have e2 : great tubeB tubeC 1 = 2 := by decide +kernel
      have er : reachD tubeB tubeC 1 = .tup [.tup [.int 0, .int 1], .tup [.int 2, .int 1]] := by
        unfold reachD; rw [e1, e2]; rfl
      rw [cb, if_pos rfl, er] at c1
      have d1 : bnds tubeB = .tup [.tup [.int 0, .int 0], .tup [.int 0, .int 2], .tup [.int 0, .int 2], .tup [.int 3, .int 3]] := rfl
      have d2 : bnds tubeC = .tup [.tup [.int 0, .int 2], .tup [.int 0, .int 2], .tup [.int 0, .int 2]] := rfl
      rw [d1, d2] at c1
      have c1' : rn (k + 9) 29 [.tup [.tup [.int 0, .int 0], .tup [.int 0, .int 2], .tup [.int 0, .int 2], .tup [.int 3, .int 3]], .tup [.tup [.int 0, .int 2], .tup [.int 0, .int 2], .tup [.int 0, .int 2]], .int 1] u' = .ok (.tup [.tup [.int 0, .int 1], .tup [.int 2, .int 1]]) u' := c1
      have m3 : BinO.run .mul (.tup [.tup [.int 0, .int 2]]) (.int 3) = some (.tup [.tup [.int 0, .int 2], .tup [.int 0, .int 2], .tup [.int 0, .int 2]]) := mul_t (n := 3) (by decide) (by decide) (by simp) (by simp)
      have sm := law_same (k + 6) u' (d := .tup [.tup [.int 0, .int 1], .tup [.int 2, .int 1]]) (n := 2) (pn_tup2 (pn_tup2 (.int _ _) (.int _ _)) (pn_tup2 (.int _ _) (.int _ _)))
      simp! [m3, c1', sm]
  obtain ⟨r, u', e, hq⟩ := key.of
  subst hq
  exact ⟨u', e⟩
end Lx

end Part_k77K6

section Part_k77FIN
set_option maxRecDepth 100000
set_option maxHeartbeats 4000000
/-! FIN: the plain law. -/
namespace Lx
open Lv PySem
theorem plain (ns : List Int) (hn : ns.length ≤ 63) : ∃ u, Lv.run C fs 40 48 [.scr ns] [] = .ok (.bl true) u := by
  rw [← rn_eq]
  obtain ⟨r, u, e, hr⟩ := (laps (K := 10) law_right 28 ns hn []).of
  subst hr
  exact ⟨u, e⟩
end Lx

end Part_k77FIN

section Part_H_k77
set_option maxRecDepth 100000
set_option maxHeartbeats 0
namespace Lx
open Lv PySem PySem.Spec PyProof.Rows L2
def topS (i : Nat) : Stmt := PySem.Challenge.pw_levelruns_k77_whole_reaches_by_caps.main.body.getD i (.Pass ⟨0, 0, 0, 0⟩)
def dd (i : Nat) (x : Str) : He.DefD := ⟨(x, none), x, x, defArgs (topS i), defBody (topS i), defScope (topS i), [], []⟩
def ds0 : List He.DefD := [dd 2 "is_whole", dd 3 "is_between", dd 4 "is_tuple_of", dd 5 "first_wrong", dd 6 "fraction", dd 7 "is_fraction_by", dd 8 "whole", dd 9 "sum_of", dd 10 "times", dd 11 "is_less", dd 12 "greater_of", dd 13 "lesser_of", dd 14 "greatest_of", dd 15 "least_of", dd 24 "is_pair_by", dd 25 "are_bounds_by", dd 27 "wrong_in_caps", dd 28 "sum_between", dd 29 "least_at", dd 30 "greatest_at"]
def ds1 : List He.DefD := [dd 31 "can_keep_caps_by", dd 32 "caps_run_by", dd 33 "caps_reach_by", dd 41 "check_bounds", dd 42 "check_place", dd 43 "check_fraction", dd 45 "check_caps", dd 46 "can_keep_caps", dd 47 "caps_run", dd 48 "caps_reach", dd 50 "is_barred_up", dd 51 "is_barred_down", dd 52 "barring_by", dd 53 "height_from", dd 54 "reach_by", dd 56 "check_span", dd 57 "reach", dd 59 "_law_well", dd 60 "_law_take", dd 61 "_law_of"]
def ds2 : List He.DefD := [dd 62 "_law_same", dd 63 "_law_is_below", dd 64 "_law_bounds", dd 65 "_law_caps", dd 66 "_law_reaches", dd 67 "_law_runs", dd 68 "_law_is_told", dd 69 "_law_right", dd 70 "law"]
def ds : List He.DefD := ds0 ++ ds1 ++ ds2
def looseN0 : List Str := ["__name__", "is_whole", "is_between", "is_tuple_of", "first_wrong", "fraction", "is_fraction_by", "whole", "sum_of", "times", "is_less", "greater_of", "lesser_of", "greatest_of", "least_of", "FARTHEST", "FEWEST_PLACES", "MOST_PLACES", "LOW", "HIGH", "UP", "DOWN", "is_pair_by", "are_bounds_by", "wrong_in_caps", "sum_between", "least_at", "greatest_at", "can_keep_caps_by", "caps_run_by"]
def looseN1 : List Str := ["caps_reach_by", "RunError", "NotBounds", "NotAFraction", "InvalidPlace", "InvalidWorks", "check_bounds", "check_place", "check_fraction", "check_caps", "can_keep_caps", "caps_run", "caps_reach", "is_barred_up", "is_barred_down", "barring_by", "height_from", "reach_by", "check_span", "reach", "_law_well", "_law_take", "_law_of", "_law_same", "_law_is_below", "_law_bounds", "_law_caps", "_law_reaches", "_law_runs", "_law_is_told"]
def looseN2 : List Str := ["_law_right"]
def looseN : List Str := looseN0 ++ looseN1 ++ looseN2
abbrev R : PySem.W.OpenRow := PySem.W.OpenLaw.row PySem.Challenge.rw_levelruns_k77_whole_reaches_by_caps
abbrev hk : PySem.W.Hook := hookL 4 (faOf fs) ds gl I.gcd
def ob (s : PySem.W.SharedT) : He.AlD := obsLG 4 (faOf fs) ds gl I.gcd (HandSHeadRun.getT s)
theorem ob_eq (s : PySem.W.SharedT) : ob s = hk.obs s.abs := obsLG_eq (HandSHeadRun.getT_eq s)
theorem run (w : World) : HandSHeadRun.RunEqI R (PySem.W.view R.prog [0, 70]) hk ob 4000 looseN w := by
  unfold HandSHeadRun.RunEqI
  kernel_rfl
theorem chk : chkAll I fs ds = true := by kernel_rfl
theorem nod : (fs.map (·.name)).Nodup := by decide +kernel
end Lx

end Part_H_k77

section Part_A_k77
set_option maxRecDepth 100000
set_option maxHeartbeats 0
namespace Lx
open Lv PySem PySem.Spec PyProof.Rows L2
theorem kwAll : KwAll I C fs ds := by
  intro j f n ks pm e
  match j, e with
  | 0, e =>
    cases (Option.some.inj e)
    refine ⟨rfl, fun g d hg hd => ?_⟩
    cases (Option.some.inj (show some f29 = some g from hg))
    cases hd
    exact ⟨by decide, fun kV doc pd an cdv ct us ws h1 h2 => match us, h1, ws, h2 with | [], _, [_, _, _], _ => by kernel_rfl⟩
  | j + 1, e => cases e
end Lx
open PySem PySem.W PySem.Calls PyProof.Rows
theorem PySem.Challenge.cw_levelruns_k77_whole_reaches_by_caps_holds : PySem.Challenge.rw_levelruns_k77_whole_reaches_by_caps.Holds := by
  w_on; o_law
  refine HandSHeadRun.head_imp (r := OpenLaw.row PySem.Challenge.rw_levelruns_k77_whole_reaches_by_caps) (q := view (OpenLaw.row PySem.Challenge.rw_levelruns_k77_whole_reaches_by_caps).prog [0, 70]) (H := Lx.hk) (ob := Lx.ob) (M := 4000) (loose := Lx.looseN) (d := HandSHeadRun.topDef (OpenLaw.row PySem.Challenge.rw_levelruns_k77_whole_reaches_by_caps).prog 70) (kwd := []) Lx.ob_eq Lx.run
    (by kernel_rfl) (by kernel_rfl) (by kernel_rfl) (by rfl) (by first | assumption | decide +kernel) (by decide +kernel) ⟨rfl, rfl, rfl, rfl, rfl, by decide +kernel⟩ ?hw ?hc
  case hw => w_witness2
  case hc =>
    refine L2.walk_ofE (l := PySem.Challenge.rw_levelruns_k77_whole_reaches_by_caps) (n := 63) (k := 40) (x := "script") (CX := L2.CX0) rfl (by decide) (by kernel_rfl) ⟨rfl, by decide, by decide⟩ ?F (fun _ _ _ _ z => z)
    intro w mg fa h Y G hmg0
    obtain ⟨K, KX, c, ex⟩ := Y
    have hmg : mg ("law" : PySem.Str) = some (.ref fa) := by
      have e : (HandSHeadRun.topDef (OpenLaw.row PySem.Challenge.rw_levelruns_k77_whole_reaches_by_caps).prog 70).name = ("law" : PySem.Str) := by kernel_rfl
      rw [← e]
      exact hmg0
    have g := Lv.got_of KX G c ex (I := Lx.I) (C := Lx.C) rfl rfl
    obtain ⟨fd, z1, z2, z3, z4, z5⟩ := Lv.defs_ok (P := (PySem.Challenge.rw_levelruns_k77_whole_reaches_by_caps).prog) (w := w) rfl Lx.chk Lx.nod Lx.kwAll g 40 48 Lx.f48 rfl
    have e := hmg.symm.trans (g.mgd 48 Lx.f48 rfl)
    cases e
    exact ⟨K, fd, _, KX, fun s u => z4 s [u] rfl, fun H a ns hl _ hS => Lv.law_sp hS (Lx.plain ns hl), fun base _ _ => z1 base⟩

end Part_A_k77
