import PyProof.Rows.All
import KE.GoesMore
import HandS.Zip
import HandS.Iter
import KE.SortData
import KE.SortCalls
import KE.LtData
import HandS.ForMost
import HandS.ForExc
import HandS.Deep
import HandS.IsInst
import HandS.TupAny
import HandS.Wide
import HandS.Rev
import HandS.Flow
import HandS.Defaults
import HandS.FStr
import HandS.Style
import HandS.Conv
import HandS.ExcInit
import HandS.ExcField
import HandS.WordsExc
import HandS.Head0
import HandS.Head1
import HandS.Head2
import HandS.HeadEnd
import HandS.HeadHook4
import KE.DataCmp
import HandS.HeadHook1
import HandS.HeadHook2
import KE.KExcIs
import KE.DataMinMax
import HandS.HeadHook3
import PySem.Challenge.RW_roomtopass_k14_chains
set_option Elab.async false
set_option linter.all false
set_option maxRecDepth 100000
set_option maxHeartbeats 0
/-! E1: enumerate of a tuple, as a walk. -/
namespace R
open PySem PySem.Spec L2
open PyProof.Rows hiding St
theorem meets_enumT (tup : Addr) (its : Array Value) :
    Meets (Builtin.«enumerate.__new__» ⟨[.type "enumerate", .ref tup], []⟩) (fun _ R s => s.heap.IsTuple tup its ∧
      R (.ok (.ret (.ref (s.heap.push ⟨.type "tuple_iterator", none, .fields #[.ref tup, .int 0 0], #[]⟩).objs.size)))
        { s with heap := (s.heap.push ⟨.type "tuple_iterator", none, .fields #[.ref tup, .int 0 0], #[]⟩).push ⟨.type "enumerate", none, .fields #[.none, .bool false, .ref s.heap.objs.size, rawInt 0, .none, .none], #[]⟩ }) :=
  .of_wp fun P w A R s h => by
    obtain ⟨hp, g, d, tk, os⟩ := s
    obtain ⟨hT, h⟩ := h
    have sub := sub_enumerate
    have go : ∀ {A' : Around} {E : Value → Shared → Prop} {Q : Value → Shared → Prop}, Q (.ref hp.objs.size) ⟨hp.push ⟨.type "tuple_iterator", none, .fields #[.ref tup, .int 0 0], #[]⟩, g, d, tk, os⟩ → wpAny (model P w) A' (pyIter (.ref tup)) Q E ⟨hp, g, d, tk, os⟩ :=
      fun q => (begins_tuple tup its).iter P w _ _ ⟨hp, g, d, tk, os⟩ _ hT q
    wp_walk using go
    refine wpAny_stack_any fun z => wpAny_pure ?_
    split
    · rename_i c _ _ _ _ _
      cases (c == Value.type "enumerate")
      · wp_walk using go
        exact ⟨_, rfl, h⟩
      · wp_walk using go
        exact ⟨_, rfl, h⟩
    · wp_walk using go
      exact ⟨_, rfl, h⟩
theorem call_enumT {P : Program} {w : World} {A : Around} {E : Value → Shared → Prop} {s : Shared} {tup : Addr} {its : Array Value} {Q : Value → Shared → Prop} (hT : s.heap.IsTuple tup its)
    (h : ∀ h', IsEnum h' (s.heap.objs.size + 1) s.heap.objs.size 0 .none → h'.IsTupleIter s.heap.objs.size tup 0 → (∀ b o, s.heap.get? b = some o → h'.get? b = some o) → Q (.ref (s.heap.objs.size + 1)) { s with heap := h' }) :
    wpAny (model P w) A (call (.type "enumerate") [.ref tup]) Q E s := by
  refine callType_new F.called_enumerate (by decide) (F.typeCall_enumerate_1 _) (F.newCall_enumerate_1 _) (fun z => F.args_object_init_2 z _) F.entry_enumerate_new (meets_enumT tup its) ⟨hT, ?_⟩
  generalize ho : (⟨.type "tuple_iterator", none, .fields #[.ref tup, .int 0 0], #[]⟩ : Obj) = o1
  generalize ho2 : (⟨.type "enumerate", none, .fields #[.none, .bool false, .ref s.heap.objs.size, rawInt 0, .none, .none], #[]⟩ : Obj) = o2
  have hz : (s.heap.push o1).objs.size = s.heap.objs.size + 1 := Heap.size_push ..
  show _ ∧ _
  rw [hz]
  have e1 : ((s.heap.push o1).push o2).get? (s.heap.objs.size + 1) = some o2 := by
    have := Heap.get?_push_size (s.heap.push o1) (o := o2) (by rw [← ho2]; rfl)
    rwa [hz] at this
  have e2 : ((s.heap.push o1).push o2).get? s.heap.objs.size = some o1 := Heap.get?_push_of_some _ (Heap.get?_push_size _ (by rw [← ho]; rfl))
  have he : IsEnum ((s.heap.push o1).push o2) (s.heap.objs.size + 1) s.heap.objs.size 0 .none := by
    rw [← ho2] at e1 ⊢
    exact e1
  refine ⟨⟨_, he, rfl⟩, h _ he ⟨o1, e2, by rw [← ho], by rw [← ho]; rfl⟩ fun b o x => Heap.get?_push_of_some _ (Heap.get?_push_of_some _ x)⟩
/-- the tuple at a, each item with its number in a new pair -/
def IteT (K : PySem.W.Frag) (a : Addr) : It :=
  ⟨fun i H => ∃ (l : List V) (x : V), SqT K H a l ∧ l[i]? = some x, fun i H v H' => ∃ T x, v = .ref T ∧ H T = none ∧ H' = upd H T (.tup [.int (i : Nat), x]) ∧ ∀ l, SqT K H a l → l[i]? = some x, fun i H => ∃ l : List V, SqT K H a l ∧ l.length ≤ i⟩
theorem turn_enumT {P : Program} {w : World} {K : PySem.W.Frag} {elts : List Expr} {kk : Nat} {tpos : Pos} (a e it : Addr) (hait : a ≠ it) (hae : a ≠ e) :
    Turn P w K (.Tuple elts kk tpos) (IteT K a) [e, it] e (fun i h => (∃ old, IsEnum h e it ((i : Nat) : Int) old) ∧ h.IsTupleIter it a i ∧ e ≠ it) where
  mem := by simp
  obj := fun i h st b hb => by
    obtain ⟨⟨old, he⟩, ⟨o, ho, _, hd⟩, _⟩ := st
    have eb : b = e ∨ b = it := by simpa using hb
    rcases eb with z | z
    · rw [z]
      exact ⟨_, he, fun v q => nomatch q⟩
    · exact ⟨o, z ▸ ho, fun v q => by rw [hd] at q; cases q⟩
  keep := fun i h h' ⟨⟨old, he⟩, hi, hne⟩ k => ⟨⟨old, k e (by simp) _ he⟩, hi.at fun o q => k it (by simp) o q, hne⟩
  item := by
    intro X hP hw hK hc i pins s σ H E I hf st ⟨l, x, hq, hx⟩
    subst hP hw hK
    obtain ⟨⟨old, he⟩, hit, hne⟩ := st
    obtain ⟨its, rv, p, hz⟩ := I.tuple hq
    obtain ⟨u, hu, ru⟩ := rv.get hx
    have hi : i < its.toArray.size := by
      have := (List.getElem?_eq_some_iff.mp hu).1
      simpa using this
    have hel : e < s.heap.objs.size := Heap.lt_size he
    have hil : it < s.heap.objs.size := by obtain ⟨_, q, _⟩ := hit; exact Heap.lt_size q
    refine wpAny_pyNext_enum_itemD (Draws.tuple (A := X.A.in1) (I.ok.hd hc) it a hait its.toArray) he ⟨hit, p⟩ hi hne (by simp; exact ⟨hne, fun z => hae z.symm⟩) fun y h' tk hy ho hst hT hsz hk => ?_
    have ey : y = u := by
      have hy' : its[i]? = some y := by simpa using hy
      rw [hu] at hy'
      exact (Option.some.inj hy').symm
    subst ey
    refine ⟨_, rfl, wpAny_letOwnedTupleGo_enum (s := { s with heap := h', toks := tk + 1 }) ho fun h2 he' sb => ?_⟩
    have hT2 : h2.get? s.heap.objs.size = some { cls := .type "tuple", data := .seq #[.int i tk, y] } := (sb.2 _ (Nat.ne_of_gt hel)).trans hT
    have new : ObjOk X.prog X.w (upd H s.heap.objs.size (.tup [.int (i : Nat), x])) h2 s.heap.objs.size (.tup [.int (i : Nat), x]) :=
      ⟨by show 2 ≤ sizeLine; decide, [.int i tk, y], .cons ⟨_, rfl⟩ (.cons ru .nil), ⟨_, hT2, rfl, _, rfl⟩⟩
    have I1 : Inv X pins σ (upd H s.heap.objs.size (.tup [.int (i : Nat), x])) { s with heap := h2, toks := tk + 1 } :=
      I.turnedNew (ch := [e, it]) (fun b o hb q => (sb.2 b (fun z => hb (by simp [z]))).trans (hk b o (fun z => hb (by simp [z])) (fun z => hb (by simp [z])) q)) hf (Nat.le_refl _) new
    refine ⟨.ref s.heap.objs.size, _, I1, rfl, ⟨_, x, rfl, I.hok.fresh (Nat.le_refl _), rfl, fun ys hy => by rw [I.tuple_inj hy hq]; exact hx⟩, ⟨⟨y, ?_⟩, hst.1.at fun o q => (sb.2 it (Ne.symm hne)).trans q, hne⟩, fun b hb => ?_⟩
    · rw [show ((i + 1 : Nat) : Int) = (i : Int) + 1 by omega]
      exact he'
    · have hb' : b < s.heap.objs.size := by
        have eb : b = e ∨ b = it := by simpa using hb
        rcases eb with z | z
        · exact z ▸ hel
        · exact z ▸ hil
      rw [upd_ne (Nat.ne_of_lt hb')]
      exact (hf b hb).1
  done := by
    intro X hP hw hK hc i pins s σ H E I hf st ⟨l, hq, hx⟩
    subst hP hw hK
    obtain ⟨⟨old, he⟩, hit, hne⟩ := st
    obtain ⟨its, rv, p, hz⟩ := I.tuple hq
    obtain ⟨f0, f1, f2, f3, f4, f5⟩ := hf it (by simp)
    have hl := rv.length
    refine ?_
    unfold pyNext
    have hT : s.TypeIs (.ref e) "enumerate" := ⟨_, he, rfl⟩
    refine wpAny_bind (wpAny_attempt (wpAny_callSpecial?_slot (name := Str.ofString "__next__") hT F.slot_enumerate_next (wpAny_call_entry F.slot_enumerate_next hT F.entry_enumerate_next ?_ (F.args_enumerate_next_1 _))))
    show wpAny _ _ (field (.ref e) 2 >>= _) _ _ _
    refine wpAny_bind (wpAny_field he rfl (x := .ref it) rfl ?_)
    refine wpAny_bind (wpAny_nextOf_tuple_end (I.ok.hd hc) hit p (by simp; omega) fun h' x he' hx' => ?_)
    obtain ⟨o, ho, hcl⟩ := hx'
    refine wpAny_bind (wpAny_isInstance (T := "StopIteration") (b := true) ⟨o, ho, hcl⟩ isSubtype_stop ?_)
    exact wpAny_pure ⟨rfl, I.turned (t' := s.toks) (fun b o hb q => he' b o hb q) f0 f1 f3 f4 f5⟩
  self := fun A i s Q E ⟨⟨_, he⟩, _⟩ h => wpAny_pyIter_enum he h
def iEnumA (K : PySem.W.Frag) (ta : TA) : TI := fun σ H R => ta σ H fun vs H1 => ∃ a xs, vs = [.ref a] ∧ ((SqL K H1 a xs ∧ R (Ite K a) H1) ∨ (SqT K H1 a xs ∧ R (IteT K a) H1))
theorem pi_enumA {X : Cx} {e : Expr} {ta : TA} {p pos tpos : Pos} {elts : List Expr} {kk : Nat} (hg : Gl X "enumerate") (hm : X.mg "enumerate" = none) (ha : PA X [e] ta) (hs : starEach [e] X.env = [(false, eval e X.env)]) :
    PI X (.Tuple elts kk tpos) (.Call (.Name "enumerate" p) [e] [] pos) (iEnumA X.K ta) := by
  refine ⟨fun pins s σ H R I h => ?_⟩
  refine Call_ (ld_blt I hg hm boot_enumerate (PyProof.Rows.callWith_type1 (thn (ha.run pos pins s σ H _ I h) fun us s1 ⟨vs, H1, I1, r1, q1⟩ => ?_) hs rfl))
  obtain ⟨a, xs, rfl, q1⟩ := q1
  cases r1 with
  | cons r rr =>
    cases rr
    cases r
    have fresh2 : ∀ b, b ∈ [s1.heap.objs.size + 1, s1.heap.objs.size] → FpOk X pins H1 b := fun b hb => by
      have hle : s1.heap.objs.size ≤ b := by
        have eb : b = s1.heap.objs.size + 1 ∨ b = s1.heap.objs.size := by simpa using hb
        rcases eb with z | z <;> omega
      exact I1.fpOk hle (I1.hok.fresh hle)
    rcases q1 with ⟨hq, q⟩ | ⟨hq, q⟩
    · obtain ⟨its, rv, p', hz⟩ := I1.list hq
      refine call_enumerate_list p'.isList fun h' he hit hsz hk => wpAny_pyIter_enum he ?_
      have I2 : Inv X pins σ H1 { s1 with heap := h' } := I1.kept (t' := s1.toks) hk
      exact ⟨_, [s1.heap.objs.size + 1, s1.heap.objs.size], _, _, H1, rfl, I2, turn_enum a (s1.heap.objs.size + 1) s1.heap.objs.size, ⟨⟨.none, he⟩, hit, Nat.succ_ne_self _⟩, fresh2, q⟩
    · obtain ⟨its, rv, p', hz⟩ := I1.tuple hq
      have hlt : a < s1.heap.objs.size := by obtain ⟨o, ho, _⟩ := id p'; exact Heap.lt_size ho
      refine call_enumT (show s1.heap.IsTuple a its.toArray from p') fun h' he hit hk => wpAny_pyIter_enum he ?_
      have I2 : Inv X pins σ H1 { s1 with heap := h' } := I1.kept (t' := s1.toks) hk
      exact ⟨_, [s1.heap.objs.size + 1, s1.heap.objs.size], _, _, H1, rfl, I2, turn_enumT a (s1.heap.objs.size + 1) s1.heap.objs.size (Nat.ne_of_lt hlt) (Nat.ne_of_lt (Nat.lt_succ_of_lt hlt)), ⟨⟨.none, he⟩, hit, Nat.succ_ne_self _⟩, fresh2, q⟩
end R

/-! E2: sorted of a tuple. -/
namespace R
open PySem PySem.W PySem.Calls PyProof.Rows
section
variable {prog : Program} {w : World} {A : Around} {E : Value → Shared → Prop} {s : Shared} {β : Type} {vs : List Value} {bs : List β} {enc : β → PyData} {R : Value → β → Prop}
theorem collectT {t : Addr} {Q : List Value → Shared → Prop} (ht : s.heap.IsTuple t vs.toArray) (h : Q vs { s with heap := (s.heap.push (seqObj "list" #[] 0)).update s.heap.objs.size (Obj.mapSeq (· ++ vs.toArray)) }) (hz : vs.length ≤ sizeLine) :
    wpAny (model prog w) A (collect (.ref t)) Q E s := by
  obtain ⟨ob, hob, hcl, k, hdt⟩ := id ht
  unfold collect
  refine wpAny_bind (wpAny_runValue (codeAny_builtin entry_proto_collect' ?_))
  show wpAny _ _ (do again (.builtin "list.__iadd__" ⟨[← newList [], .ref t], []⟩)) _ _ s
  refine wpAny_bind (wpAny_newList (wpAny_pure ⟨Code.quiet_builtin _ (by decide +kernel), codeAny_builtin entry_list_iadd' ?_⟩))
  show wpAny _ _ (Builtin.List.listExtendWith (.ref s.heap.objs.size) (.ref t) (.ref s.heap.objs.size)) _ _ { s with heap := s.heap.push (seqObj "list" #[] 0) }
  unfold Builtin.List.listExtendWith
  have hob2 : (s.heap.push (seqObj "list" #[] 0)).get? t = some ob := Heap.get?_push_of_some _ hob
  refine wpAny_bind (wpAny_typeOf (T := "tuple") ⟨ob, hob2, hcl⟩ ?_)
  have hty : (Value.type "tuple" == Value.type "tuple") = true := by rfl
  rw [if_pos (by rw [hty]; simp)]
  refine wpAny_bind (listItems_at hob2 hdt ?_)
  refine wpAny_bind (listItems_at (xs := #[]) (n := 0) (Heap.get?_push_size _ rfl) rfl ?_)
  rw [if_neg (by simp)]
  refine wpAny_bind (listUpdate_at (xs := #[]) (n := 0) (Heap.get?_push_size _ rfl) rfl ?_ (Nat.zero_le _) (by show (#[] ++ vs.toArray).size ≤ sizeLine + 1; simp only [Array.size_append, List.size_toArray, List.length_nil]; omega))
  refine wpAny_pure ?_
  show wpAny (model prog w) A (do
      let ob ← load s.heap.objs.size
      match ob.data with
      | .seq xs _ => pure xs.toList
      | _ => unsupported "internal:collect") Q E { s with heap := (s.heap.push (seqObj "list" #[] 0)).update s.heap.objs.size (Obj.mapSeq (· ++ vs.toArray)) }
  refine wpAny_bind (wpAny_load (get?_update_seq (Heap.get?_push_size _ rfl) _) ?_)
  show wpAny _ _ (pure ((#[] : Array Value) ++ vs.toArray).toList) Q E _
  rw [show ((#[] : Array Value) ++ vs.toArray).toList = vs by simp]
  exact wpAny_pure h
theorem sortT_body {t : Addr} {Q : Value → Shared → Prop} (ht : s.heap.IsTuple t vs.toArray) (hz : vs.length ≤ sizeLine)
    (body : ∀ E' : Value → Shared → Prop, wpAny (model prog w) A.in1.in1 (Builtin.«list.sort» ⟨[.ref (s.heap.objs.size + 1)], []⟩) (fun f s' => f = .done (.ret .none) ∧ Q (.ref (s.heap.objs.size + 1)) s') E' { s with heap := copyHeap s.heap vs }) :
    wpAny (model prog w) A (call (.builtin "sorted") [.ref t]) Q E s := by
  refine call_function_entry_kw kind_sorted plain_sorted entry_sorted (args_sorted1 _) ?_
  unfold Builtin.«sorted»
  refine wpAny_bind (m := checkCount "sorted" 1 1 _) (wpAny_pure ?_)
  refine wpAny_bind (collectT ht ?_ hz)
  refine wpAny_bind (wpAny_newList ?_ hz)
  have e1 : ((s.heap.push (seqObj "list" #[] 0)).update s.heap.objs.size (Obj.mapSeq (· ++ vs.toArray))).objs.size = s.heap.objs.size + 1 := by
    rw [Heap.size_update, size_push']
  show wpAny _ _ _ _ _ { s with heap := copyHeap s.heap vs }
  rw [e1]
  refine wpAny_bind (wpAny_holding (wpAny_call_entry_kw slot_list_sort ⟨_, copyHeap_at s.heap vs, rfl⟩ entry_list_sort ?go (args_list_sort _)))
  case go =>
    show wpAny (model prog w) A.in1.in1 (Builtin.«list.sort» ⟨[.ref (s.heap.objs.size + 1)], []⟩) _ _ _
    refine wpAny_mono (body _) (fun f s' ⟨hf, hq⟩ => ?_) fun _ _ e => e
    subst hf
    exact ⟨_, rfl, wpAny_pure ⟨_, rfl, hq⟩⟩
theorem sortedT {t : Addr} {Q : Value → Shared → Prop} (ht : s.heap.IsTuple t vs.toArray) (e : EachIs R vs bs) (er : EachIs (fun v b => ∃ as, Reads s.heap v (enc b) as) vs bs) (hal : AllAlike (bs.map enc)) (hk : Sortable (bs.map enc)) (hL : bs.length ≤ sizeLine)
    (hu : ∀ b, b ∈ bs → A.units + 2 + (enc b).depth < cLine) (h : ∀ out, out.length = bs.length → EachIs R out (bs.mergeSort (dataLe false enc)) → Q (.ref (s.heap.objs.size + 1)) { s with heap := sortedAll s.heap vs (List.toArray out) }) :
    wpAny (model prog w) A (call (.builtin "sorted") [.ref t]) Q E s := by
  have er2 : EachIs (fun v b => ∃ as, Reads (sortingHeap (copyHeap s.heap vs) (s.heap.objs.size + 1) vs) v (enc b) as) vs bs := er.mono fun _ _ ⟨as, r⟩ => ⟨as, PyProof.Rows.Reads.keeps (fun _ _ => sorting_copy_old) r⟩
  have hz : vs.length ≤ sizeLine := by rw [e.length]; exact hL
  refine sortT_body ht hz fun _ => list_sort_vals (s := { s with heap := copyHeap s.heap vs }) (copyHeap_at s.heap vs)
    (SortsAt.data (s := { s with heap := sortingHeap (copyHeap s.heap vs) (s.heap.objs.size + 1) vs }) (each_map (R := fun v d => ∃ as, Reads (sortingHeap (copyHeap s.heap vs) (s.heap.objs.size + 1) vs) v d as) enc er2) hal hk (bound_map hu)) hz ⟨rfl, ?_⟩
  exact h _ (by rw [sortVals_length false rfl]; exact e.length) (sortVals_data false e er2 hal)
end
end R

/-! A1: data, the IR, its evaluator. -/
namespace R
open PySem PySem.Spec L2
open PyProof.Rows hiding St

/-! ### data -/
/-- what never changes any more -/
inductive Dat where
  | non | bl (b : Bool) | int (i : Int) | str (s : Str)
  | tup (xs : List Dat) | lst (xs : List Dat) | dic (t : Bool) (ks vs : List Dat) | set (xs : List Dat)
  /-- the law's own script: a list that nobody changes -/
  | scr (xs : List Dat)
/-- a value: data, or a container that its holder owns -/
inductive PV where
  | d (x : Dat) | tup (xs : List PV) | lst (xs : List PV) | dic (t : Bool) (ks vs : List Dat) | set (xs : List Dat)
abbrev Sto := List (Option PV)
instance : Inhabited Dat := ⟨.non⟩

mutual
def Dat.beq : Dat → Dat → Bool
  | .non, .non => true
  | .bl a, .bl b => a == b
  | .int a, .int b => decide (a = b)
  | .str a, .str b => decide (a = b)
  | .tup a, .tup b => Dat.beqs a b
  | .lst a, .lst b => Dat.beqs a b
  | .dic t a c, .dic u b e => t == u && (Dat.beqs a b && Dat.beqs c e)
  | .set a, .set b => Dat.beqs a b
  | .scr a, .scr b => Dat.beqs a b
  | _, _ => false
def Dat.beqs : List Dat → List Dat → Bool
  | [], [] => true
  | x :: xs, y :: ys => Dat.beq x y && Dat.beqs xs ys
  | _, _ => false
end
mutual
theorem Dat.beq_eq : ∀ (a b : Dat), Dat.beq a b = true → a = b
  | .non, b, h => by cases b <;> simp_all [Dat.beq]
  | .bl a, b, h => by cases b <;> simp_all [Dat.beq]
  | .int a, b, h => by cases b <;> simp_all [Dat.beq]
  | .str a, b, h => by cases b <;> simp_all [Dat.beq]
  | .tup a, b, h => by
    cases b with
    | tup b => rw [Dat.beqs_eq a b (by simpa [Dat.beq] using h)]
    | _ => simp [Dat.beq] at h
  | .lst a, b, h => by
    cases b with
    | lst b => rw [Dat.beqs_eq a b (by simpa [Dat.beq] using h)]
    | _ => simp [Dat.beq] at h
  | .dic t a c, b, h => by
    cases b with
    | dic u b e =>
      have h' : t = u ∧ Dat.beqs a b = true ∧ Dat.beqs c e = true := by simpa [Dat.beq] using h
      rw [h'.1, Dat.beqs_eq _ _ h'.2.1, Dat.beqs_eq _ _ h'.2.2]
    | _ => simp [Dat.beq] at h
  | .set a, b, h => by
    cases b with
    | set b => rw [Dat.beqs_eq a b (by simpa [Dat.beq] using h)]
    | _ => simp [Dat.beq] at h
  | .scr a, b, h => by
    cases b with
    | scr b => rw [Dat.beqs_eq a b (by simpa [Dat.beq] using h)]
    | _ => simp [Dat.beq] at h
theorem Dat.beqs_eq : ∀ (a b : List Dat), Dat.beqs a b = true → a = b
  | [], b, h => by cases b <;> simp_all [Dat.beqs]
  | x :: xs, b, h => by
    cases b with
    | nil => simp [Dat.beqs] at h
    | cons y ys =>
      have h' : Dat.beq x y = true ∧ Dat.beqs xs ys = true := by simpa [Dat.beqs] using h
      rw [Dat.beq_eq _ _ h'.1, Dat.beqs_eq _ _ h'.2]
end
mutual
theorem Dat.beq_self : ∀ a : Dat, Dat.beq a a = true
  | .non | .bl _ | .int _ | .str _ => by simp [Dat.beq]
  | .tup a | .lst a | .set a | .scr a => by simpa [Dat.beq] using Dat.beqs_self a
  | .dic t a c => by simpa [Dat.beq] using ⟨Dat.beqs_self a, Dat.beqs_self c⟩
theorem Dat.beqs_self : ∀ a : List Dat, Dat.beqs a a = true
  | [] => by simp [Dat.beqs]
  | x :: xs => by simpa [Dat.beqs] using ⟨Dat.beq_self x, Dat.beqs_self xs⟩
end
instance : DecidableEq Dat := fun a b => if h : Dat.beq a b = true then isTrue (Dat.beq_eq _ _ h) else isFalse fun e => h (e ▸ Dat.beq_self a)

mutual
/-- given up as an owned thing -/
def PV.frz : PV → Dat
  | .d x => x
  | .tup xs => .tup (frzs xs)
  | .lst xs => .lst (frzs xs)
  | .dic t ks vs => .dic t ks vs
  | .set xs => .set xs
def frzs : List PV → List Dat
  | [] => []
  | p :: r => p.frz :: frzs r
end
abbrev dl (xs : List Dat) : PV := .lst (xs.map .d)
@[simp] theorem frzs_map (xs : List Dat) : frzs (xs.map .d) = xs := by
  induction xs with
  | nil => rfl
  | cons x r ih => simp [frzs, PV.frz, ih]
@[simp] theorem frz_d (x : Dat) : (PV.d x).frz = x := by simp [PV.frz]
@[simp] theorem frz_dl (xs : List Dat) : (dl xs).frz = .lst xs := by simp [PV.frz]
@[simp] theorem frzs_nil : frzs [] = [] := by simp [frzs]
@[simp] theorem frzs_cons (p : PV) (r : List PV) : frzs (p :: r) = p.frz :: frzs r := by simp [frzs]
theorem frzs_length : ∀ xs : List PV, (frzs xs).length = xs.length
  | [] => rfl
  | p :: r => by simp [frzs_length r]
/-- all of it data -/
def allD : List PV → Option (List Dat)
  | [] => some []
  | .d x :: r => (allD r).map (x :: ·)
  | _ :: _ => none
@[simp] theorem allD_map (xs : List Dat) : allD (xs.map .d) = some xs := by
  induction xs with
  | nil => rfl
  | cons x r ih => simp [allD, ih]
@[simp] theorem allD_nil : allD [] = some [] := rfl
@[simp] theorem allD_cons_d (x : Dat) (r : List PV) : allD (.d x :: r) = (allD r).map (x :: ·) := rfl
theorem allD_some : ∀ {xs : List PV} {ds : List Dat}, allD xs = some ds → xs = ds.map .d
  | [], _, h => by cases h; rfl
  | .d x :: r, ds, h => by
    cases e : allD r with
    | none => simp [allD, e] at h
    | some l =>
      simp [allD, e] at h
      subst h
      simp [allD_some e]
  | .tup _ :: _, _, h | .lst _ :: _, _, h | .dic _ _ _ :: _, _, h | .set _ :: _, _, h => by simp [allD] at h
def mkTup (xs : List PV) : PV :=
  match allD xs with
  | some ds => .d (.tup ds)
  | none => .tup xs
@[simp] theorem mkTup_map (xs : List Dat) : mkTup (xs.map .d) = .d (.tup xs) := by simp [mkTup]

mutual
/-- for the library's == and < -/
def Dat.py : Dat → PyData
  | .non => .none
  | .bl b => .bool b
  | .int i => .int i
  | .str s => .str s
  | .tup xs => .tuple (pys xs)
  | .lst xs => .list (pys xs)
  | .dic _ _ _ => .dict []
  | .set _ => .dict []
  | .scr _ => .dict []
def pys : List Dat → List PyData
  | [] => []
  | x :: r => x.py :: pys r
end

/-! ### results -/
inductive Res (α : Type) where
  | ok (a : α) (σ : Sto)
  | exc (c : Str) (fs : List (Str × Dat)) (σ : Sto)
  | bad
@[inline] def Res.bind {α β : Type} (r : Res α) (f : α → Sto → Res β) : Res β :=
  match r with
  | .ok a σ => f a σ
  | .exc c fs σ => .exc c fs σ
  | .bad => .bad
@[simp] theorem Res.bind_ok {α β : Type} (a : α) (σ : Sto) (f : α → Sto → Res β) : (Res.ok a σ).bind f = f a σ := rfl
@[simp] theorem Res.bind_exc {α β : Type} (c : Str) (fs : List (Str × Dat)) (σ : Sto) (f : α → Sto → Res β) : (Res.exc c fs σ : Res α).bind f = .exc c fs σ := rfl
@[simp] theorem Res.bind_bad {α β : Type} (f : α → Sto → Res β) : (Res.bad : Res α).bind f = .bad := rfl
/-- a call's result: the value, and what the lent arguments have become -/
inductive CRes where
  | ok (v : PV) (as : List PV)
  | exc (c : Str) (fs : List (Str × Dat)) (as : List PV)
  | bad
/-- a statement's -/
inductive FR where
  | nx (σ : Sto) | brk (σ : Sto) | cont (σ : Sto)
  | ret (v : PV) (σ : Sto)
  | exc (c : Str) (fs : List (Str × Dat)) (σ : Sto)
  | bad

/-! ### the IR -/
inductive Bop where
  | add | sub | mul | fdiv | mod | pow | shl
inductive Cop where
  | lt | le | gt | ge | eq | ne | is | isnot | mem | notmem
inductive Ty where
  | tuple | list | int | bool | str | dict
/-- one-argument and two-argument built-ins by values -/
inductive Bi where
  | len | abs | int | str | tuple | list | sorted | sum | min | max | any | all | min2 | max2
inductive SK where
  | range | seq | enum | zip | rev
inductive Tg where
  | n (i : Nat) | t (ts : List Tg)
inductive Mt where
  | append | pop | popAt | extend | insert
inductive Sm where
  | isascii | isdigit
inductive E where
  | lit (x : Dat)
  /-- a slot's value (an owned container is given up) -/
  | get (r : Nat)
  /-- a local's value, taken out of its slot (return x) -/
  | mov (r : Nat)
  /-- a slot looked at for a moment -/
  | vw (r : Nat)
  /-- an argument lent -/
  | lend (r : Nat)
  | idxv (r : Nat) (i : E)
  | idx (b i : E)
  | sl (b : E) (lo hi : Option E)
  | slv (r : Nat) (lo hi : Option E)
  | revs (b : E)
  | tup (es : List E)
  | lst (es : List E)
  | bin (op : Bop) (a b : E)
  | neg (a : E)
  | not (a : E)
  | and (a b : E)
  | or (a b : E)
  | ite (c a b : E)
  | cmp (op : Cop) (a b : E)
  | chain (op op' : Cop) (a b c : E)
  | chain3 (op op' op2 : Cop) (a b c e : E)
  /-- list(range(..)), tuple(range(..)) -/
  | rng (t : Bool) (es : List E)
  /-- e in D, e not in D; D[e]: D a dict of the program's top, strings to numbers -/
  | kin (no : Bool) (e : E) (kvs : List (Str × Int))
  | kat (kvs : List (Str × Int)) (e : E)
  /-- {}; e in r, e not in r; r[e]: a dict in a slot -/
  | dnew (t : Bool)
  | din (no : Bool) (e : E) (r : Nat)
  | dget (r : Nat) (e : E)
  | call (f : Nat) (es : List E)
  | bi (f : Bi) (es : List E)
  | isi (a : E) (ts : List Ty)
  | comp (k : SK) (ss : List E) (tg : Tg) (cs : List E) (own : List Nat) (elt : E)
  /-- .. whose source is a slot that is left as it is -/
  | compV (k : SK) (r : Nat) (tg : Tg) (cs : List E) (own : List Nat) (elt : E)
  | meth (m : Mt) (r : Nat) (es : List E)
/-- what an except suite returns: written data, the error's fields, tuples of them -/
inductive HE where
  | lit (x : Dat) | fld (f : Str) | tup (hs : List HE)
/-- what an except suite asks: isinstance by the raised class, told -/
inductive HG where
  | isx (tb : List (Str × Bool)) | and (a b : HG) | or (a b : HG) | not (a : HG)
inductive S where
  | set (i : Nat) (e : E)
  | unp (t : Tg) (e : E)
  | par (is : List Nat) (es : List E)
  | aug (i : Nat) (op : Bop) (e : E)
  | setix (r : Nat) (i e : E)
  | dput (r : Nat) (k e : E)
  | augix (r : Nat) (i : E) (op : Bop) (e : E)
  | expr (e : E)
  | ret (e : E)
  | ite (c : E) (a b : List S)
  | for_ (k : SK) (ss : List E) (tg : Tg) (b : List S)
  | wh (c : E) (b : List S)
  | brk | cont | pass
  /-- raise c(es), the fields' names told -/
  | raise (c : Str) (ns : List Str) (es : List E)
  /-- try: b / except c as slot i: (if g:) return h, one behind another; cs: which classes c catches; ok: those whose fields are known -/
  | try_ (b : List S) (cs : List (Str × Bool)) (i : Nat) (ok : List Str) (hs : List (Option HG × HE))

/-! ### operators by values -/
def truO : Dat → Option Bool
  | .non => some false
  | .bl b => some b
  | .int i => some (i != 0)
  | .str s => if s.length ≤ sizeLine then some (s.length != 0) else none
  | .tup xs => some (!xs.isEmpty)
  | .lst xs => some (!xs.isEmpty)
  | .scr xs => some (!xs.isEmpty)
  | _ => none
/-- (by a look at the number's size: nothing that the kernel would count through) -/
def small (i : Int) : Bool := match i with
  | .ofNat n => Nat.ble n 18446744073709551615
  | .negSucc n => Nat.ble n 18446744073709551614
theorem small_ok {i : Int} (h : small i = true) : -(2 ^ 64) < i ∧ i < 2 ^ 64 := by
  unfold small at h
  split at h
  · have := Nat.le_of_ble_eq_true h
    constructor <;> simp <;> omega
  · have := Nat.le_of_ble_eq_true h
    constructor <;> omega
def inR (j : Int) : Bool := match j with
  | .ofNat n => Nat.ble n 4611686018427387903
  | .negSucc n => Nat.ble n 4611686018427387903
theorem inR_ok {j : Int} (h : inR j = true) : -(2 ^ 62) ≤ j ∧ j < 2 ^ 62 := by
  unfold inR at h
  split at h
  · have := Nat.le_of_ble_eq_true h
    constructor <;> simp <;> omega
  · have := Nat.le_of_ble_eq_true h
    constructor <;> omega
theorem inR_mk {j : Int} (h1 : -(2 ^ 62) ≤ j) (h2 : j < 2 ^ 62) : inR j = true := by
  unfold inR
  split
  · rename_i n
    refine Nat.ble_eq_true_of_le ?_
    have : ((n : Nat) : Int) < 2 ^ 62 := h2
    omega
  · refine Nat.ble_eq_true_of_le ?_
    omega
def binD : Bop → Dat → Dat → Option PV
  | .add, .int i, .int j => some (.d (.int (i + j)))
  | .sub, .int i, .int j => some (.d (.int (i - j)))
  | .mul, .int i, .int j => if small i || small j || decide (i.natAbs.log2 + j.natAbs.log2 < 1000000) then some (.d (.int (i * j))) else none
  | .fdiv, .int i, .int j => if decide (0 < j ∧ j.natAbs.log2 < 9000) then some (.d (.int (i / j))) else none
  | .mod, .int i, .int j => if decide (0 < j) then some (.d (.int (i % j))) else none
  | .pow, .int i, .int j => if decide (0 ≤ j ∧ j ≤ 1000000 ∧ i.natAbs < 2 ^ 64) then some (.d (.int (i ^ j.toNat))) else none
  | .shl, .int i, .int j => if decide (0 ≤ j ∧ j ≤ 1000000 ∧ i.natAbs < 2 ^ 64) then some (.d (.int (i * 2 ^ j.toNat))) else none
  | .add, .str a, .str b => if decide (a.length + b.length ≤ sizeLine) then some (.d (.str (a ++ b))) else none
  | .add, .tup a, .tup b => if decide (a.length + b.length ≤ sizeLine) then some (.d (.tup (a ++ b))) else none
  | .add, .lst a, .lst b => if decide (a.length + b.length ≤ sizeLine) then some (dl (a ++ b)) else none
  | .mul, .lst a, .int k => if inR k && decide (a.length * k.toNat ≤ sizeLine) then some (dl (List.replicate k.toNat a).flatten) else none
  | _, _, _ => none
/-- a value that compares as PyData -/
def eqOk (x : Dat) : Bool := SeqAt.shaped x.py
mutual
def noDic : Dat → Bool
  | .dic _ _ _ => false
  | .set _ => false
  | .scr _ => false
  | .tup xs => noDics xs
  | .lst xs => noDics xs
  | _ => true
def noDics : List Dat → Bool
  | [] => true
  | x :: r => noDic x && noDics r
end
def eqD (a b : Dat) : Option Bool :=
  match a, b with
  | .int i, .int j => some (decide (i = j))
  | a, b => if noDic a && noDic b && eqOk a && eqOk b then some (PyData.eqv a.py b.py) else none
def ltD (a b : Dat) : Option Bool :=
  match a, b with
  | .int i, .int j => some (decide (i < j))
  | a, b => if noDic a && noDic b && decide (a ≠ .non) && decide (a.py.depth ≤ 60 ∧ b.py.depth ≤ 60) && PySem.W.alike a.py b.py then some (PySem.W.dataLt a.py b.py) else none
def memD (a : Dat) (xs : List Dat) : Option Bool :=
  if noDic a && noDics xs && eqOk a && eqOk (.lst xs) then some (xs.any fun z => PyData.eqv z.py a.py) else none
def cmpD : Cop → Dat → Dat → Option Bool
  | .eq, a, b => eqD a b
  | .ne, a, b => (eqD a b).map (!·)
  | .lt, a, b => ltD a b
  | .gt, a, b => ltD b a
  | .le, a, b => (ltD b a).map (!·)
  | .ge, a, b => (ltD a b).map (!·)
  | .is, a, .non => some (decide (a = .non))
  | .isnot, a, .non => some (!decide (a = .non))
  | .is, .bl a, .bl b => some (decide (a = b))
  | .isnot, .bl a, .bl b => some (!decide (a = b))
  | .mem, a, .lst xs => memD a xs
  | .mem, a, .tup xs => memD a xs
  | .notmem, a, .lst xs => (memD a xs).map (!·)
  | .notmem, a, .tup xs => (memD a xs).map (!·)
  | _, _, _ => none
def ixN (n : Nat) (i : Int) : Option Nat := L2.ixN n i
def atD (xs : List Dat) (i : Int) : Option Dat := L2.atI xs i
def idxD : Dat → Dat → Option Dat
  | .tup xs, .int i => atD xs i
  | .lst xs, .int i => atD xs i
  | .scr xs, .int i => atD xs i
  | .str s, .int i => if decide (s.length ≤ sizeLine) then (L2.atI s.cps.toList i).map fun c => .str ⟨#[c]⟩ else none
  | _, _ => none
def cutD (xs : List Dat) (lo hi : Option Int) : List Dat :=
  (xs.drop (HT.sIx xs.length 0 lo)).take (HT.sIx xs.length xs.length hi - HT.sIx xs.length 0 lo)
def slD : Dat → Option Int → Option Int → Option PV
  | .tup xs, lo, hi => some (.d (.tup (cutD xs lo hi)))
  | .lst xs, lo, hi => some (dl (cutD xs lo hi))
  | .scr xs, lo, hi => some (dl (cutD xs lo hi))
  | _, _, _ => none
def revD : Dat → Option PV
  | .lst xs => some (dl xs.reverse)
  | .tup xs => some (.d (.tup xs.reverse))
  | _ => none
def tyD : Ty → Dat → Bool
  | .tuple, .tup _ => true
  | .list, .lst _ => true
  | .list, .scr _ => true
  | .int, .int _ => true
  | .int, .bl _ => true
  | .bool, .bl _ => true
  | .str, .str _ => true
  | .dict, .dic _ _ _ => true
  | _, _ => false
def intsD : List Dat → Option (List Int)
  | [] => some []
  | .int i :: r => (intsD r).map (i :: ·)
  | _ :: _ => none
def boolsD : List Dat → Option (List Bool)
  | [] => some []
  | .bl i :: r => (boolsD r).map (i :: ·)
  | _ :: _ => none
def seqD : Dat → Option (List Dat)
  | .tup xs => some xs
  | .lst xs => some xs
  | .scr xs => some xs
  | _ => none
def lstD : Dat → Option (List Dat)
  | .lst xs => some xs
  | .scr xs => some xs
  | _ => none
def maxL : List Int → Option Int
  | [] => none
  | [x] => some x
  | x :: r => (maxL r).map fun m => max x m
def minL : List Int → Option Int
  | [] => none
  | [x] => some x
  | x :: r => (minL r).map fun m => min x m
def sortD : List Dat → List Dat
  | [] => []
  | x :: r => insL x (sortD r)
where
  /-- x stood ahead of all of these -/
  insL (x : Dat) : List Dat → List Dat
    | [] => [x]
    | y :: r => if PySem.W.dataLt y.py x.py then y :: insL x r else x :: y :: r
def alikeAllB (xs : List Dat) : Bool := xs.all fun x => xs.all fun y => PySem.W.alike x.py y.py
def isTupC : Dat → Bool
  | .tup (_ :: _) => true
  | _ => false
def isFlat : Dat → Bool
  | .int _ => true
  | .str _ => true
  | .bl _ => true
  | _ => false
def sortable (xs : List Dat) : Bool := noDics xs && alikeAllB xs && (xs.all isTupC || xs.all isFlat) && (xs.all fun x => decide (x.py.depth ≤ 60))
/-- the least of tuples alike: the first of them -/
def minT : List Dat → Option Dat
  | [] => none
  | x :: r => if sortable (x :: r) && (x :: r).all isTupC then some (r.foldl (fun a y => if PySem.W.dataLt y.py a.py then y else a) x) else none
def minP (xs : List Dat) : Option PV := match (intsD xs).bind minL with
  | some m => some (.d (.int m))
  | none => (minT xs).map .d
def biD : Bi → List Dat → Option PV
  | .len, [.tup xs] => some (.d (.int xs.length))
  | .len, [.lst xs] => some (.d (.int xs.length))
  | .len, [.scr xs] => some (.d (.int xs.length))
  | .len, [.str s] => if decide (s.length ≤ sizeLine) then some (.d (.int s.length)) else none
  | .abs, [.int i] => some (.d (.int (if i < 0 then -i else i)))
  | .int, [.int i] => some (.d (.int i))
  | .int, [.bl b] => some (.d (.int (if b then 1 else 0)))
  | .str, [.int i] => if decide (i.natAbs.log2 < 1920) then some (.d (.str (toString i))) else none
  | .tuple, [.tup xs] => some (.d (.tup xs))
  | .tuple, [.lst xs] => some (.d (.tup xs))
  | .list, [.tup xs] => some (dl xs)
  | .list, [.lst xs] => some (dl xs)
  | .list, [.scr xs] => some (dl xs)
  | .sorted, [.lst xs] => if sortable xs then some (dl (sortD xs)) else none
  | .sum, [.lst xs] => (intsD xs).map fun ns => .d (.int ns.sum)
  | .min, [.lst xs] => minP xs
  | .max, [.lst xs] => ((intsD xs).bind maxL).map fun m => .d (.int m)
  | .any, [.lst xs] => (boolsD xs).map fun bs => .d (.bl (bs.any id))
  | .all, [.lst xs] => (boolsD xs).map fun bs => .d (.bl (bs.all id))
  | .min2, [.int i, .int j] => some (.d (.int (min i j)))
  | .max2, [.int i, .int j] => some (.d (.int (max i j)))
  | .sorted, [.tup xs] => if sortable xs then some (dl (sortD xs)) else none
  | _, _ => none

/-! ### what a loop walks -/
inductive Its where
  | l (xs : List Dat)
  | r (lo st : Int) (n : Nat)
def enumD : Nat → List Dat → List Dat
  | _, [] => []
  | n, x :: r => .tup [.int n, x] :: enumD (n + 1) r
def zipD : List Dat → List Dat → List Dat
  | x :: xs, y :: ys => .tup [x, y] :: zipD xs ys
  | _, _ => []
def itsRange : List Dat → Option Its
  | [.int j] => if inR j then some (.r 0 1 j.toNat) else none
  | [.int i, .int j] => if inR i && inR j then some (.r i 1 (j - i).toNat) else none
  | [.int i, .int j, .int (.negSucc 0)] => if inR i && inR j then some (.r i (-1) (i - j).toNat) else none
  | _ => none
def itsZip : Dat → Dat → Option Its
  | .tup xs, .tup ys => some (.l (zipD xs ys))
  | x, y => (lstD x).bind fun xs => (lstD y).map fun ys => .l (zipD xs ys)
def itsOf : SK → List Dat → Option Its
  | .range, xs => itsRange xs
  | .seq, [x] => (seqD x).map .l
  | .enum, [x] => (seqD x).map fun xs => .l (enumD 0 xs)
  | .zip, [x, y] => itsZip x y
  | .rev, [x] => (seqD x).map fun xs => .l xs.reverse
  | _, _ => none
mutual
def asg : Tg → PV → Sto → Option Sto
  | .n i, v, σ => some (σ.set i (some v))
  | .t ts, .d (.tup xs), σ => asgs ts (xs.map .d) σ
  | .t ts, .tup xs, σ => asgs ts xs σ
  | .t _, _, _ => none
def asgs : List Tg → List PV → Sto → Option Sto
  | [], [], σ => some σ
  | t :: ts, v :: vs, σ => (asg t v σ).bind fun σ' => asgs ts vs σ'
  | _, _, _ => none
end
def seqL (f : Dat → Sto → FR) : List Dat → Sto → FR
  | [], σ => .nx σ
  | x :: xs, σ =>
    match f x σ with
    | .nx σ' => seqL f xs σ'
    | .cont σ' => seqL f xs σ'
    | .brk σ' => .nx σ'
    | r => r
def seqR (f : Dat → Sto → FR) (st : Int) : Nat → Int → Sto → FR
  | 0, _, σ => .nx σ
  | n + 1, lo, σ =>
    match f (.int lo) σ with
    | .nx σ' => seqR f st n (lo + st) σ'
    | .cont σ' => seqR f st n (lo + st) σ'
    | .brk σ' => .nx σ'
    | r => r
def Its.go (f : Dat → Sto → FR) : Its → Sto → FR
  | .l xs, σ => seqL f xs σ
  | .r lo st n, σ => seqR f st n lo σ
/-- nothing may leave a comprehension's block -/
def noX {α : Type} : Res α → Res α
  | .exc _ _ _ => .bad
  | r => r
/-- a comprehension's turns: none: the test says no -/
def compL (f : Dat → Sto → Res (Option PV)) : List Dat → List PV → Sto → Res (List PV)
  | [], acc, σ => .ok acc σ
  | x :: xs, acc, σ => (f x σ).bind fun o σ' =>
    match o with
    | some v => if acc.length < sizeLine then compL f xs (acc ++ [v]) σ' else .bad
    | none => compL f xs acc σ'
def compR (f : Dat → Sto → Res (Option PV)) (st : Int) : Nat → Int → List PV → Sto → Res (List PV)
  | 0, _, acc, σ => .ok acc σ
  | n + 1, lo, acc, σ => (f (.int lo) σ).bind fun o σ' =>
    match o with
    | some v => if acc.length < sizeLine then compR f st n (lo + st) (acc ++ [v]) σ' else .bad
    | none => compR f st n (lo + st) acc σ'
def Its.comp (f : Dat → Sto → Res (Option PV)) : Its → Sto → Res (List PV)
  | .l xs, σ => compL f xs [] σ
  | .r lo st n, σ => compR f st n lo [] σ
def whileF (c : Sto → Res Bool) (b : Sto → FR) : Nat → Sto → FR
  | 0, _ => .bad
  | n + 1, σ =>
    match c σ with
    | .ok false σ' => .nx σ'
    | .ok true σ' => (match b σ' with
      | .nx σ2 => whileF c b n σ2
      | .cont σ2 => whileF c b n σ2
      | .brk σ2 => .nx σ2
      | r => r)
    | .exc c fs σ' => .exc c fs σ'
    | .bad => .bad
/-- slots that hold, put back -/
def wipeS (σ : Sto) : List Nat → Sto
  | [] => σ
  | i :: r => (wipeS σ r).set i none
/-- .. their data put back -/
def backS (σ0 : Sto) : List Nat → Sto → Sto
  | [], σ => σ
  | i :: r, σ => backS σ0 r (σ.set i (match σ0[i]? with
    | some (some (.d x)) => some (.d x)
    | _ => none))
def lendOf : E → Option Nat
  | .lend r => some r
  | _ => none
/-- the lent arguments taken out of their slots -/
def takeL : List E → List PV → Sto → Option (List PV × Sto)
  | [], [], σ => some ([], σ)
  | e :: es, p :: ps, σ => (match lendOf e with
    | some r => (match σ[r]? with
      | some (some (.d x)) => (takeL es ps σ).map fun q => (.d x :: q.1, q.2)
      | some (some p) => (takeL es ps (σ.set r none)).map fun q => (p :: q.1, q.2)
      | _ => none)
    | none => (takeL es ps σ).map fun q => (p :: q.1, q.2))
  | _, _, _ => none
/-- .. and given back: σ0 tells which were taken -/
def giveL (σ0 : Sto) : List E → List PV → Sto → Sto
  | e :: es, p :: ps, σ => (match lendOf e with
    | some r => (match σ0[r]? with
      | some (some (.d _)) => giveL σ0 es ps σ
      | some (some _) => giveL σ0 es ps (σ.set r (some p))
      | _ => giveL σ0 es ps σ)
    | none => giveL σ0 es ps σ)
  | _, _, σ => σ

/-! ### the evaluator -/
abbrev CF := Nat → List PV → CRes
def FRof (r : Res PV) (f : PV → Sto → FR) : FR :=
  match r with
  | .ok a σ => f a σ
  | .exc c fs σ => .exc c fs σ
  | .bad => .bad
def optR {α : Type} (o : Option α) (σ : Sto) : Res α :=
  match o with
  | some a => .ok a σ
  | none => .bad
@[simp] theorem optR_some {α : Type} (a : α) (σ : Sto) : optR (some a) σ = .ok a σ := rfl
@[simp] theorem optR_none {α : Type} (σ : Sto) : (optR none σ : Res α) = .bad := rfl
def methP : Mt → PV → List PV → Option (PV × PV)
  | .append, .lst xs, [v] => if xs.length < sizeLine then some (.d .non, .lst (xs ++ [v])) else none
  | .pop, .lst xs, [] => (xs[xs.length - 1]?).map fun v => (v, .lst xs.dropLast)
  | .popAt, .lst xs, [.d (.int i)] => if inR i then (seqIndex? i xs.length).bind fun k => (xs[k]?).map fun v => (v, .lst (xs.eraseIdx k)) else none
  | .extend, .lst xs, [.lst ys] => if xs.length + ys.length ≤ sizeLine then some (.d .non, .lst (xs ++ ys)) else none
  | .extend, .lst xs, [.d (.lst ys)] => if xs.length + ys.length ≤ sizeLine then some (.d .non, .lst (xs ++ ys.map .d)) else none
  | _, _, _ => none
def augI : Bop → Dat → Dat → Option Dat
  | .add, .int i, .int j => some (.int (i + j))
  | .sub, .int i, .int j => some (.int (i - j))
  | _, _, _ => none
def setIxP : PV → Dat → PV → Option PV
  | .lst xs, .int i, v => (L2.ixN xs.length i).bind fun k => if k < xs.length then some (.lst (xs.set k v)) else none
  | _, _, _ => none
/-- list(range(..)) -/
def rngD (t : Bool) (a b : Int) : Option PV := if inR a && inR b && decide ((b - a).toNat ≤ 16777216) then
    (let l := (List.range (b - a).toNat).map fun i => Dat.int (a + ((i : Nat) : Int))
     some (if t then .d (.tup l) else dl l)) else none
def rngP (t : Bool) : List Dat → Option PV
  | [.int n] => rngD t 0 n
  | [.int a, .int b] => rngD t a b
  | _ => none
def kinD (no : Bool) (kvs : List (Str × Int)) : Dat → Option PV
  | .str k => some (.d (.bl ((kvs.any fun kv => decide (kv.1 = k)) != no)))
  | _ => none
def katD (kvs : List (Str × Int)) : Dat → Option PV
  | .str k => ((kvs.find? fun kv => decide (kv.1 = k)).map (·.2)).map fun i => .d (.int i)
  | _ => none
def getD? (σ : Sto) (r : Nat) : Option PV := (σ[r]?).join
/-- an item of an owned or given-up container in a slot -/
def idxP : PV → Dat → Option Dat
  | .d b, i => idxD b i
  | .lst xs, .int i => (L2.atI xs i).bind fun
    | .d x => some x
    | _ => none
  | .tup xs, .int i => (L2.atI xs i).bind fun
    | .d x => some x
    | _ => none
  | _, _ => none
/-! ### dicts in slots: their keys are ints and strings -/
def keyOk : Bool → Dat → Bool
  | false, .int _ => true
  | false, .str _ => true
  | _, _ => false
def dicP : PV → Option (Bool × List Dat × List Dat)
  | .dic t ks vs => some (t, ks, vs)
  | .d (.dic t ks vs) => some (t, ks, vs)
  | _ => none
def dinP (no : Bool) (k : Dat) (p : PV) : Option PV := (dicP p).bind fun q => if keyOk q.1 k then some (.d (.bl (decide (k ∈ q.2.1) != no))) else none
def lookD (k : Dat) : List Dat → List Dat → Option Dat
  | a :: ks, v :: vs => if a = k then some v else lookD k ks vs
  | _, _ => none
def dgetP (k : Dat) (p : PV) : Option PV := (dicP p).bind fun q => if keyOk q.1 k then (lookD k q.2.1 q.2.2).map .d else none
def putV (k v : Dat) : List Dat → List Dat → List Dat
  | a :: ks, x :: vs => (if a = k then v else x) :: putV k v ks vs
  | _, _ => []
def dputP (k v : Dat) : PV → Option PV
  | .dic t ks vs => if keyOk t k && decide (ks.length < sizeLine) then some (if k ∈ ks then .dic t ks (putV k v ks vs) else .dic t (ks ++ [k]) (vs ++ [v])) else none
  | _ => none
/-- all items given up as data -/
def thawL (xs : List PV) : List PV := xs.map fun p => .d p.frz
/-- a container seen for a moment: its own items are data -/
def vwP : PV → Option Dat
  | .d x => some x
  | .lst xs => (allD xs).map .lst
  | _ => none
mutual
def evalE (C : CF) : E → Sto → Res PV
  | .lit x, σ => .ok (.d x) σ
  | .get r, σ => (match σ[r]? with
    | some (some (.d x)) => .ok (.d x) σ
    | some (some p) => .ok (.d p.frz) (σ.set r (some (.d p.frz)))
    | _ => .bad)
  | .mov r, σ => (match σ[r]? with
    | some (some p) => .ok p (σ.set r none)
    | _ => .bad)
  | .vw r, σ => (match σ[r]? with
    | some (some p) => (match vwP p with
      | some x => .ok (.d x) σ
      | none => (match p with
        | .lst xs => .ok (.d (.lst (frzs xs))) (σ.set r (some (.lst (thawL xs))))
        | _ => .bad))
    | _ => .bad)
  | .lend r, σ => (match σ[r]? with
    | some (some _) => .ok (.d .non) σ
    | _ => .bad)
  | .idxv r i, σ => (match σ[r]? with
    | some (some _) => (evalE C i σ).bind fun k σ1 =>
      match σ1[r]? with
      | some (some p) => (match idxP p k.frz with
        | some x => .ok (.d x) σ1
        | none => (match p with
          | .lst xs => (match idxP (.lst (thawL xs)) k.frz with
            | some x => .ok (.d x) (σ1.set r (some (.lst (thawL xs))))
            | none => .bad)
          | _ => .bad))
      | _ => .bad
    | _ => .bad)
  | .idx b i, σ => (evalE C b σ).bind fun p σ1 => (evalE C i σ1).bind fun k σ2 => optR ((idxD p.frz k.frz).map .d) σ2
  | .sl b lo hi, σ => (evalE C b σ).bind fun p σ1 => (evalO C lo σ1).bind fun l σ2 => (evalO C hi σ2).bind fun h σ3 => optR (slD p.frz l h) σ3
  | .slv r lo hi, σ => (match σ[r]? with
    | some (some _) => (evalO C lo σ).bind fun l σ2 => (evalO C hi σ2).bind fun h σ3 =>
      match σ3[r]? with
      | some (some p) => (match vwP p with
        | some x => optR (slD x l h) σ3
        | none => .bad)
      | _ => .bad
    | _ => .bad)
  | .revs b, σ => (evalE C b σ).bind fun p σ1 => optR (revD p.frz) σ1
  | .tup es, σ => (evalEs C es σ).bind fun ps σ1 => if ps.length ≤ sizeLine then .ok (mkTup ps) σ1 else .bad
  | .lst es, σ => (evalEs C es σ).bind fun ps σ1 => if ps.length ≤ sizeLine then .ok (.lst ps) σ1 else .bad
  | .bin op a b, σ => (evalE C a σ).bind fun p σ1 => (evalE C b σ1).bind fun q σ2 => optR (binD op p.frz q.frz) σ2
  | .neg a, σ => (evalE C a σ).bind fun p σ1 =>
    match p.frz with
    | .int i => .ok (.d (.int (-i))) σ1
    | _ => .bad
  | .not a, σ => (evalE C a σ).bind fun p σ1 => (optR (truO p.frz) σ1).bind fun b σ2 => .ok (.d (.bl (!b))) σ2
  | .and a b, σ => (evalE C a σ).bind fun p σ1 => (optR (truO p.frz) σ1).bind fun k σ2 => if k then evalE C b σ2 else .ok (.d p.frz) σ2
  | .or a b, σ => (evalE C a σ).bind fun p σ1 => (optR (truO p.frz) σ1).bind fun k σ2 => if k then .ok (.d p.frz) σ2 else evalE C b σ2
  | .ite c a b, σ => (evalE C c σ).bind fun p σ1 => (optR (truO p.frz) σ1).bind fun k σ2 => if k then evalE C a σ2 else evalE C b σ2
  | .cmp op a b, σ => (evalE C a σ).bind fun p σ1 => (evalE C b σ1).bind fun q σ2 => optR ((cmpD op p.frz q.frz).map fun k => .d (.bl k)) σ2
  | .chain op op' a b c, σ => (evalE C a σ).bind fun p σ1 => (evalE C b σ1).bind fun q σ2 =>
    match cmpD op p.frz q.frz with
    | some true => (evalE C c σ2).bind fun r σ3 => optR ((cmpD op' q.frz r.frz).map fun k => .d (.bl k)) σ3
    | some false => .ok (.d (.bl false)) σ2
    | none => .bad
  | .chain3 op op' op2 a b c e, σ => (evalE C a σ).bind fun p σ1 => (evalE C b σ1).bind fun q σ2 =>
    match cmpD op p.frz q.frz with
    | some true => (evalE C c σ2).bind fun r σ3 => (match cmpD op' q.frz r.frz with
      | some true => (evalE C e σ3).bind fun t σ4 => optR ((cmpD op2 r.frz t.frz).map fun k => .d (.bl k)) σ4
      | some false => .ok (.d (.bl false)) σ3
      | none => .bad)
    | some false => .ok (.d (.bl false)) σ2
    | none => .bad
  | .rng t es, σ => (evalEs C es σ).bind fun ps σ1 => optR (rngP t (frzs ps)) σ1
  | .kin no e kvs, σ => (evalE C e σ).bind fun p σ1 => optR (kinD no kvs p.frz) σ1
  | .kat kvs e, σ => (evalE C e σ).bind fun p σ1 => optR (katD kvs p.frz) σ1
  | .dnew t, σ => .ok (.dic t [] []) σ
  | .din no e r, σ => (evalE C e σ).bind fun p σ1 => match σ1[r]? with
    | some (some q) => optR (dinP no p.frz q) σ1
    | _ => .bad
  | .dget r e, σ => (match σ[r]? with
    | some (some _) => (evalE C e σ).bind fun p σ1 => (match σ1[r]? with
      | some (some q) => optR (dgetP p.frz q) σ1
      | _ => .bad)
    | _ => .bad)
  | .call f es, σ => (evalEs C es σ).bind fun ps σ1 =>
    match takeL es ps σ1 with
    | some (as, σ2) => (match C f as with
      | .ok v as' => .ok v (giveL σ1 es as' σ2)
      | .exc c fs as' => .exc c fs (giveL σ1 es as' σ2)
      | .bad => .bad)
    | none => .bad
  | .bi f es, σ => (evalEs C es σ).bind fun ps σ1 => optR (biD f (frzs ps)) σ1
  | .isi a ts, σ => (evalE C a σ).bind fun p σ1 => .ok (.d (.bl (ts.any fun t => tyD t p.frz))) σ1
  | .comp k ss tg cs own elt, σ => (evalEs C ss σ).bind fun ps σ1 =>
    match itsOf k (frzs ps) with
    | some its => (its.comp (fun x τ =>
        match asg tg (.d x) (wipeS τ own) with
        | some τ1 => noX ((evalTs C cs τ1).bind fun b τ2 => if b then (evalE C elt τ2).bind fun v τ3 => .ok (some v) τ3 else .ok none τ2)
        | none => .bad) (wipeS σ1 own)).bind fun vs σ2 => .ok (.lst vs) (backS σ1 own σ2)
    | none => .bad
  | .compV k r tg cs own elt, σ => (match σ[r]? with
    | some (some p) => (match vwP p with
      | some x => (match itsOf k [x] with
        | some its => (its.comp (fun x τ =>
            match asg tg (.d x) (wipeS τ own) with
            | some τ1 => noX ((evalTs C cs τ1).bind fun b τ2 => if b then (evalE C elt τ2).bind fun v τ3 => .ok (some v) τ3 else .ok none τ2)
            | none => .bad) (wipeS (σ.set r none) own)).bind fun vs σ2 => .ok (.lst vs) ((backS (σ.set r none) own σ2).set r (some p))
        | none => .bad)
      | none => .bad)
    | _ => .bad)
  | .meth m r es, σ => (match σ[r]? with
    | some (some (.lst _)) => (evalEs C es σ).bind fun ps σ1 =>
      match σ1[r]? with
      | some (some p) => (match methP m p ps with
        | some (v, p') => .ok v (σ1.set r (some p'))
        | none => .bad)
      | _ => .bad
    | _ => .bad)
def evalEs (C : CF) : List E → Sto → Res (List PV)
  | [], σ => .ok [] σ
  | e :: es, σ => (evalE C e σ).bind fun p σ1 => (evalEs C es σ1).bind fun ps σ2 => .ok (p :: ps) σ2
def evalO (C : CF) : Option E → Sto → Res (Option Int)
  | none, σ => .ok none σ
  | some e, σ => (evalE C e σ).bind fun p σ1 =>
    match p.frz with
    | .int i => .ok (some i) σ1
    | _ => .bad
def evalTs (C : CF) : List E → Sto → Res Bool
  | [], σ => .ok true σ
  | e :: es, σ => (evalE C e σ).bind fun p σ1 => (optR (truO p.frz) σ1).bind fun k σ2 => if k then evalTs C es σ2 else .ok false σ2
end
mutual
def evalH (fs : List (Str × Dat)) : HE → Option Dat
  | .lit x => some x
  | .fld f => fs.lookup f
  | .tup hs => (evalHs fs hs).map .tup
def evalHs (fs : List (Str × Dat)) : List HE → Option (List Dat)
  | [] => some []
  | h :: hs => (evalH fs h).bind fun x => (evalHs fs hs).map (x :: ·)
end
def evalG (c : Str) : HG → Option Bool
  | .isx tb => tb.lookup c
  | .and a b => (evalG c a).bind fun k => if k then evalG c b else some false
  | .or a b => (evalG c a).bind fun k => if k then some true else evalG c b
  | .not a => (evalG c a).map (!·)
/-- none: stuck; some none: nothing is returned -/
def evalHG (c : Str) (fs : List (Str × Dat)) : List (Option HG × HE) → Option (Option Dat)
  | [] => some none
  | (none, h) :: _ => (evalH fs h).map some
  | (some g, h) :: r => (evalG c g).bind fun k => if k then (evalH fs h).map some else evalHG c fs r
def setL : List Nat → List PV → Sto → Sto
  | i :: is, p :: ps, σ => setL is ps (σ.set i (some p))
  | _, _, σ => σ
mutual
def execS (C : CF) (fu : Nat) : S → Sto → FR
  | .set i e, σ => FRof (evalE C e σ) fun v σ1 => .nx (σ1.set i (some v))
  | .unp t e, σ => FRof (evalE C e σ) fun v σ1 => match asg t v σ1 with
    | some σ2 => .nx σ2
    | none => .bad
  | .par is es, σ => match evalEs C es σ with
    | .ok ps σ1 => if ps.length = is.length then .nx (setL is ps σ1) else .bad
    | .exc c fs σ1 => .exc c fs σ1
    | .bad => .bad
  | .aug i op e, σ => match σ[i]? with
    | some (some (.d x)) => FRof (evalE C e σ) fun v σ1 => (match augI op x v.frz with
      | some y => .nx (σ1.set i (some (.d y)))
      | none => .bad)
    | _ => .bad
  | .setix r i e, σ => FRof (evalE C e σ) fun v σ1 => match σ1[r]? with
    | some (some _) => FRof (evalE C i σ1) fun k σ2 => (match σ2[r]? with
      | some (some p) => (match setIxP p k.frz (.d v.frz) with
        | some p' => .nx (σ2.set r (some p'))
        | none => .bad)
      | _ => .bad)
    | _ => .bad
  | .dput r k e, σ => FRof (evalE C e σ) fun v σ1 => match σ1[r]? with
    | some (some _) => FRof (evalE C k σ1) fun y σ2 => (match σ2[r]? with
      | some (some p) => (match dputP y.frz v.frz p with
        | some p' => .nx (σ2.set r (some p'))
        | none => .bad)
      | _ => .bad)
    | _ => .bad
  | .augix r i op e, σ => match σ[r]? with
    | some (some _) => FRof (evalE C i σ) fun k σ1 => (match σ1[r]? with
      | some (some (.lst xs1)) => (match idxP (.lst xs1) k.frz with
        | some x => FRof (evalE C e σ1) fun v σ2 => (match augI op x v.frz with
          | some y => (match σ2[r]? with
            | some (some p) => (match setIxP p k.frz (.d y) with
              | some p' => .nx (σ2.set r (some p'))
              | none => .bad)
            | _ => .bad)
          | none => .bad)
        | none => .bad)
      | _ => .bad)
    | _ => .bad
  | .expr e, σ => FRof (evalE C e σ) fun _ σ1 => .nx σ1
  | .ret e, σ => FRof (evalE C e σ) fun v σ1 => .ret v σ1
  | .ite c a b, σ => FRof (evalE C c σ) fun p σ1 => match truO p.frz with
    | some k => if k then execB C fu a σ1 else execB C fu b σ1
    | none => .bad
  | .for_ k ss tg b, σ => match evalEs C ss σ with
    | .ok ps σ1 => (match itsOf k (frzs ps) with
      | some its => (its.go (fun x τ => match asg tg (.d x) τ with
        | some τ1 => execB C fu b τ1
        | none => .bad) σ1)
      | none => .bad)
    | .exc c fs σ1 => .exc c fs σ1
    | .bad => .bad
  | .wh c b, σ => whileF (fun τ => (evalE C c τ).bind fun p τ1 => optR (truO p.frz) τ1) (execB C fu b) fu σ
  | .brk, σ => .brk σ
  | .cont, σ => .cont σ
  | .pass, σ => .nx σ
  | .raise c ns es, σ => match evalEs C es σ with
    | .ok ps σ1 => if ns.length = ps.length then .exc c (ns.zip (frzs ps)) σ1 else .bad
    | .exc c fs σ1 => .exc c fs σ1
    | .bad => .bad
  | .try_ b cs i ok hs, σ => match execB C fu b σ with
    | .exc c' fs σ1 => (match cs.lookup c' with
      | some true => if c' ∈ ok ∧ i < σ1.length then (match evalHG c' fs hs with
        | some (some x) => .ret (.d x) (σ1.set i none)
        | some none => .nx (σ1.set i none)
        | none => .bad) else .bad
      | some false => .exc c' fs σ1
      | none => .bad)
    | r => r
def execB (C : CF) (fu : Nat) : List S → Sto → FR
  | [], σ => .nx σ
  | s :: r, σ => match execS C fu s σ with
    | .nx σ1 => execB C fu r σ1
    | x => x
end
/-! ### defs, the program -/
structure FnD where
  np : Nat
  ns : Nat
  /-- the parameters that the body stores to: given in as data -/
  asg : List Nat
  body : List S
def fixA (asg : List Nat) : Nat → List PV → List PV
  | _, [] => []
  | k, p :: r => (if k ∈ asg then .d p.frz else p) :: fixA asg (k + 1) r
def outA (asg : List Nat) (σ : Sto) : Nat → List PV → Option (List PV)
  | _, [] => some []
  | k, p :: r => (if k ∈ asg then some p else (σ[k]?).join).bind fun q => (outA asg σ (k + 1) r).map (q :: ·)
def retC (asg : List Nat) (as : List PV) (σ : Sto) (v : PV) : CRes :=
  match outA asg σ 0 as with
  | some os => .ok v os
  | none => .bad
def endC (asg : List Nat) (as : List PV) : FR → CRes
  | .nx σ => retC asg as σ (.d .non)
  | .ret v σ => retC asg as σ v
  | .exc c fs σ => (match outA asg σ 0 as with
    | some os => .exc c fs os
    | none => .bad)
  | _ => .bad
def runFn (C : CF) (fu : Nat) (fd : FnD) (as : List PV) : CRes :=
  if as.length = fd.np then
    endC fd.asg (fixA fd.asg 0 as) (execB C fu fd.body ((fixA fd.asg 0 as).map some ++ List.replicate (fd.ns - fd.np) none))
  else .bad
def callN (fns : List FnD) (fu : Nat) : Nat → CF
  | 0 => fun _ _ => .bad
  | n + 1 => fun f as => match fns[f]? with
    | some fd => runFn (callN fns fu n) fu fd as
    | none => .bad
end R

/-! A2: how data stand in the abstract heap; what an evaluation's outcome is worth. -/
namespace R
open PySem PySem.Spec L2
open PyProof.Rows hiding St
/-- a list that nobody changes: locked, or written by the top -/
def ScrAt (K : PySem.W.Frag) (H : Hp) (a : Addr) (xs : List V) : Prop :=
  (∃ o, H a = some (.frz o (.lst xs))) ∨
    ∃ (o : Obj) (its : Array Value) (n : Nat), K.lookup a = some o ∧ o.cls = .type "list" ∧ o.dict = none ∧ o.data = .seq its n ∧ its.size ≤ sizeLine ∧ Vals xs its.toList
theorem ScrAt.sq {K : PySem.W.Frag} {H : Hp} {a : Addr} {xs : List V} (h : ScrAt K H a xs) : SqL K H a xs := by
  rcases h with h | h
  · exact .inl (.inr h)
  · exact .inr h
/-- a dict's keys -/
def keyD : L2.Key → Dat
  | .inl i => .int i
  | .inr s => .str s
def DicO : Bool → List Dat → List V → HO → Prop
  | false, ks, us, o => ∃ kvs : List (L2.Key × V), o = .dK kvs ∧ ks = kvs.map (fun p => keyD p.1) ∧ us = kvs.map (·.2)
  | true, ks, us, o => ∃ kvs : List (List L2.Key × V), o = .dT kvs ∧ ks = kvs.map (fun p => Dat.tup (p.1.map keyD)) ∧ us = kvs.map (·.2)
def IsDO (o : HO) : Prop := (∃ kvs, o = .dK kvs) ∨ ∃ kvs, o = .dT kvs
theorem DicO.is {t : Bool} {ks : List Dat} {us : List V} {o : HO} (h : DicO t ks us o) : IsDO o := by
  cases t with
  | false => obtain ⟨kvs, e, _⟩ := h; exact .inl ⟨kvs, e⟩
  | true => obtain ⟨kvs, e, _⟩ := h; exact .inr ⟨kvs, e⟩
section
variable (K : PySem.W.Frag)
mutual
def RepD (H : Hp) (O : List Addr) : Dat → V → Prop
  | .non, v => v = .non
  | .bl b, v => v = .bl b
  | .int i, v => v = .int i
  | .str s, v => v = .str s
  | .tup xs, v => ∃ a vs, v = .ref a ∧ SqT K H a vs ∧ RepDs H O xs vs
  | .lst xs, v => ∃ a vs, v = .ref a ∧ a ∉ O ∧ H a = some (.lst vs) ∧ RepDs H O xs vs
  | .dic t ks vs, v => ∃ a us o, v = .ref a ∧ a ∉ O ∧ H a = some o ∧ DicO t ks us o ∧ RepDs H O vs us
  | .set _, _ => False
  | .scr xs, v => ∃ a vs, v = .ref a ∧ ScrAt K H a vs ∧ RepDs H O xs vs
def RepDs (H : Hp) (O : List Addr) : List Dat → List V → Prop
  | [], vs => vs = []
  | x :: xs, vs => ∃ v r, vs = v :: r ∧ RepD H O x v ∧ RepDs H O xs r
end
mutual
def RepP (H : Hp) (O : List Addr) : PV → V → List Addr → Prop
  | .d x, v, w => w = [] ∧ RepD K H O x v
  | .tup xs, v, w => ∃ a vs, v = .ref a ∧ SqT K H a vs ∧ RepPs H O xs vs w
  | .lst xs, v, w => ∃ a vs w', v = .ref a ∧ w = a :: w' ∧ H a = some (.lst vs) ∧ RepPs H O xs vs w'
  | .dic t ks vs, v, w => ∃ a us o, v = .ref a ∧ w = [a] ∧ H a = some o ∧ DicO t ks us o ∧ RepDs K H O vs us
  | .set _, _, _ => False
def RepPs (H : Hp) (O : List Addr) : List PV → List V → List Addr → Prop
  | [], vs, w => vs = [] ∧ w = []
  | p :: ps, vs, w => ∃ v r w1 w2, vs = v :: r ∧ w = w1 ++ w2 ∧ RepP H O p v w1 ∧ RepPs H O ps r w2
end
/-- slots, in their order -/
def RepS0 (H : Hp) (O : List Addr) : Sto → St → List Addr → Prop
  | [], s, w => s = [] ∧ w = []
  | none :: σ, s, w => ∃ o r, s = o :: r ∧ RepS0 H O σ r w
  | some p :: σ, s, w => ∃ v r w1 w2, s = some v :: r ∧ w = w1 ++ w2 ∧ RepP K H O p v w1 ∧ RepS0 H O σ r w2
def RepS (H : Hp) (O : List Addr) (σ : Sto) (s : St) (w : List Addr) : Prop := ∃ w0, RepS0 K H O σ s w0 ∧ w0.Perm w
end
section
variable {K : PySem.W.Frag} {H H' : Hp} {O O' : List Addr}
/-- what stood as data stands -/
structure Ext (K : PySem.W.Frag) (H : Hp) (O : List Addr) (H' : Hp) (O' : List Addr) : Prop where
  tup : ∀ a vs, SqT K H a vs → SqT K H' a vs
  lst : ∀ a vs, H a = some (.lst vs) → a ∉ O → H' a = some (.lst vs) ∧ a ∉ O'
  scr : ∀ a vs, ScrAt K H a vs → ScrAt K H' a vs
  dic : ∀ a o, IsDO o → H a = some o → a ∉ O → H' a = some o ∧ a ∉ O'
mutual
theorem RepD.ext (x : Ext K H O H' O') : ∀ (d : Dat) (v : V), RepD K H O d v → RepD K H' O' d v
  | .non, _, h => by simpa [RepD] using h
  | .bl _, _, h => by simpa [RepD] using h
  | .int _, _, h => by simpa [RepD] using h
  | .str _, _, h => by simpa [RepD] using h
  | .tup xs, v, h => by
    rw [RepD] at h ⊢
    obtain ⟨a, vs, e, q, r⟩ := h
    exact ⟨a, vs, e, x.tup a vs q, RepDs.ext x xs vs r⟩
  | .lst xs, v, h => by
    rw [RepD] at h ⊢
    obtain ⟨a, vs, e, n, q, r⟩ := h
    obtain ⟨q', n'⟩ := x.lst a vs q n
    exact ⟨a, vs, e, n', q', RepDs.ext x xs vs r⟩
  | .dic t ks vs, v, h => by
    rw [RepD] at h ⊢
    obtain ⟨a, us, o, e, n, q, hd, r⟩ := h
    obtain ⟨q', n'⟩ := x.dic a o hd.is q n
    exact ⟨a, us, o, e, n', q', hd, RepDs.ext x vs us r⟩
  | .set _, _, h => by simp [RepD] at h
  | .scr xs, v, h => by
    rw [RepD] at h ⊢
    obtain ⟨a, vs, e, q, r⟩ := h
    exact ⟨a, vs, e, x.scr a vs q, RepDs.ext x xs vs r⟩
theorem RepDs.ext (x : Ext K H O H' O') : ∀ (ds : List Dat) (vs : List V), RepDs K H O ds vs → RepDs K H' O' ds vs
  | [], _, h => by simpa [RepDs] using h
  | d :: ds, vs, h => by
    rw [RepDs] at h ⊢
    obtain ⟨v, r, e, h1, h2⟩ := h
    exact ⟨v, r, e, RepD.ext x d v h1, RepDs.ext x ds r h2⟩
end
mutual
theorem RepP.ext (x : Ext K H O H' O') : ∀ (p : PV) (v : V) (w : List Addr), (∀ a ∈ w, ∀ o, H a = some o → H' a = some o) → RepP K H O p v w → RepP K H' O' p v w
  | .d d, v, w, _, h => by
    rw [RepP] at h ⊢
    exact ⟨h.1, RepD.ext x d v h.2⟩
  | .tup xs, v, w, k, h => by
    rw [RepP] at h ⊢
    obtain ⟨a, vs, e, q, r⟩ := h
    exact ⟨a, vs, e, x.tup a vs q, RepPs.ext x xs vs w k r⟩
  | .lst xs, v, w, k, h => by
    rw [RepP] at h ⊢
    obtain ⟨a, vs, w', e, ew, q, r⟩ := h
    subst ew
    exact ⟨a, vs, w', e, rfl, k a List.mem_cons_self _ q, RepPs.ext x xs vs w' (fun b hb => k b (List.mem_cons_of_mem _ hb)) r⟩
  | .dic t ks vs, v, w, k, h => by
    rw [RepP] at h ⊢
    obtain ⟨a, us, o, e, ew, q, hd, r⟩ := h
    subst ew
    exact ⟨a, us, o, e, rfl, k a List.mem_cons_self _ q, hd, RepDs.ext x vs us r⟩
  | .set _, _, _, _, h => by simp [RepP] at h
theorem RepPs.ext (x : Ext K H O H' O') : ∀ (ps : List PV) (vs : List V) (w : List Addr), (∀ a ∈ w, ∀ o, H a = some o → H' a = some o) → RepPs K H O ps vs w → RepPs K H' O' ps vs w
  | [], _, _, _, h => by simpa [RepPs] using h
  | p :: ps, vs, w, k, h => by
    rw [RepPs] at h ⊢
    obtain ⟨v, r, w1, w2, e, ew, h1, h2⟩ := h
    subst ew
    exact ⟨v, r, w1, w2, e, rfl, RepP.ext x p v w1 (fun a ha => k a (List.mem_append_left _ ha)) h1, RepPs.ext x ps r w2 (fun a ha => k a (List.mem_append_right _ ha)) h2⟩
end
theorem RepS0.ext (x : Ext K H O H' O') : ∀ (σ : Sto) (s : St) (w : List Addr), (∀ a ∈ w, ∀ o, H a = some o → H' a = some o) → RepS0 K H O σ s w → RepS0 K H' O' σ s w
  | [], _, _, _, h => by simpa [RepS0] using h
  | none :: σ, s, w, k, h => by
    rw [RepS0] at h ⊢
    obtain ⟨o, r, e, h⟩ := h
    exact ⟨o, r, e, RepS0.ext x σ r w k h⟩
  | some p :: σ, s, w, k, h => by
    rw [RepS0] at h ⊢
    obtain ⟨v, r, w1, w2, e, ew, h1, h2⟩ := h
    subst ew
    exact ⟨v, r, w1, w2, e, rfl, h1.ext x p v w1 (fun a ha => k a (List.mem_append_left _ ha)), RepS0.ext x σ r w2 (fun a ha => k a (List.mem_append_right _ ha)) h2⟩
theorem RepS.ext (x : Ext K H O H' O') {σ : Sto} {s : St} {w : List Addr} (k : ∀ a ∈ w, ∀ o, H a = some o → H' a = some o) (h : RepS K H O σ s w) : RepS K H' O' σ s w := by
  obtain ⟨w0, h, p⟩ := h
  exact ⟨w0, h.ext x σ s w0 (fun a ha => k a (p.mem_iff.mp ha)), p⟩
theorem RepS.perm {σ : Sto} {s : St} {w w' : List Addr} (h : RepS K H O σ s w) (p : w.Perm w') : RepS K H O σ s w' := by
  obtain ⟨w0, h, q⟩ := h
  exact ⟨w0, h, q.trans p⟩
/-- fewer owned -/
theorem Ext.less (h : ∀ b ∈ O', b ∈ O) : Ext K H O H O' := ⟨fun _ _ q => q, fun a vs q n => ⟨q, fun z => n (h a z)⟩, fun _ _ q => q, fun a o _ q n => ⟨q, fun z => n (h a z)⟩⟩

/-! ### giving up -/
mutual
theorem RepP.frz : ∀ (p : PV) (v : V) (w : List Addr), RepP K H O p v w → (∀ b ∈ O', b ∈ O ∧ b ∉ w) → RepD K H O' p.frz v
  | .d d, v, w, h, k => by
    rw [RepP] at h
    rw [PV.frz]
    exact RepD.ext (Ext.less fun b hb => (k b hb).1) d v h.2
  | .tup xs, v, w, h, k => by
    rw [RepP] at h
    rw [PV.frz, RepD]
    obtain ⟨a, vs, e, q, r⟩ := h
    exact ⟨a, vs, e, q, RepPs.frz xs vs w r k⟩
  | .lst xs, v, w, h, k => by
    rw [RepP] at h
    rw [PV.frz, RepD]
    obtain ⟨a, vs, w', e, ew, q, r⟩ := h
    subst ew
    exact ⟨a, vs, e, fun z => (k a z).2 List.mem_cons_self, q, RepPs.frz xs vs w' r fun b hb => ⟨(k b hb).1, fun z => (k b hb).2 (List.mem_cons_of_mem _ z)⟩⟩
  | .dic t ks vs, v, w, h, k => by
    rw [RepP] at h
    rw [PV.frz, RepD]
    obtain ⟨a, us, o, e, ew, q, hd, r⟩ := h
    subst ew
    exact ⟨a, us, o, e, fun z => (k a z).2 List.mem_cons_self, q, hd, RepDs.ext (Ext.less fun b hb => (k b hb).1) vs us r⟩
  | .set _, _, _, h, _ => by simp [RepP] at h
theorem RepPs.frz : ∀ (ps : List PV) (vs : List V) (w : List Addr), RepPs K H O ps vs w → (∀ b ∈ O', b ∈ O ∧ b ∉ w) → RepDs K H O' (frzs ps) vs
  | [], _, _, h, _ => by
    rw [RepPs] at h
    rw [frzs, RepDs]
    exact h.1
  | p :: ps, vs, w, h, k => by
    rw [RepPs] at h
    rw [frzs, RepDs]
    obtain ⟨v, r, w1, w2, e, ew, h1, h2⟩ := h
    subst ew
    exact ⟨v, r, e, RepP.frz p v w1 h1 fun b hb => ⟨(k b hb).1, fun z => (k b hb).2 (List.mem_append_left _ z)⟩, RepPs.frz ps r w2 h2 fun b hb => ⟨(k b hb).1, fun z => (k b hb).2 (List.mem_append_right _ z)⟩⟩
end
theorem RepDs.toP : ∀ (ds : List Dat) (vs : List V), RepDs K H O ds vs → RepPs K H O (ds.map .d) vs []
  | [], vs, h => by
    rw [RepDs] at h
    rw [List.map_nil, RepPs]
    exact ⟨h, rfl⟩
  | d :: ds, vs, h => by
    rw [RepDs] at h
    obtain ⟨v, r, e, h1, h2⟩ := h
    rw [List.map_cons, RepPs]
    exact ⟨v, r, [], [], e, rfl, by rw [RepP]; exact ⟨rfl, h1⟩, RepDs.toP ds r h2⟩
theorem RepPs.toD : ∀ (ds : List Dat) (vs : List V) (w : List Addr), RepPs K H O (ds.map .d) vs w → w = [] ∧ RepDs K H O ds vs
  | [], vs, w, h => by
    rw [List.map_nil, RepPs] at h
    exact ⟨h.2, by rw [RepDs]; exact h.1⟩
  | d :: ds, vs, w, h => by
    rw [List.map_cons, RepPs] at h
    obtain ⟨v, r, w1, w2, e, ew, h1, h2⟩ := h
    rw [RepP] at h1
    obtain ⟨e2, h3⟩ := RepPs.toD ds r w2 h2
    refine ⟨by rw [ew, h1.1, e2]; rfl, ?_⟩
    rw [RepDs]
    exact ⟨v, r, e, h1.2, h3⟩
theorem RepDs.length : ∀ {ds : List Dat} {vs : List V}, RepDs K H O ds vs → vs.length = ds.length
  | [], vs, h => by rw [RepDs] at h; rw [h]; rfl
  | d :: ds, vs, h => by
    rw [RepDs] at h
    obtain ⟨v, r, e, _, h2⟩ := h
    rw [e, List.length_cons, List.length_cons, h2.length]
theorem RepPs.length : ∀ {ps : List PV} {vs : List V} {w : List Addr}, RepPs K H O ps vs w → vs.length = ps.length
  | [], vs, w, h => by rw [RepPs] at h; rw [h.1]; rfl
  | p :: ps, vs, w, h => by
    rw [RepPs] at h
    obtain ⟨v, r, _, _, e, _, _, h2⟩ := h
    rw [e, List.length_cons, List.length_cons, h2.length]
theorem RepDs.get : ∀ {ds : List Dat} {vs : List V} {i : Nat} {x : Dat}, RepDs K H O ds vs → ds[i]? = some x → ∃ v, vs[i]? = some v ∧ RepD K H O x v
  | [], _, _, _, _, e => by simp at e
  | d :: ds, vs, 0, x, h, e => by
    rw [RepDs] at h
    obtain ⟨v, r, ev, h1, _⟩ := h
    simp at e
    subst e ev
    exact ⟨v, rfl, h1⟩
  | d :: ds, vs, i + 1, x, h, e => by
    rw [RepDs] at h
    obtain ⟨v, r, ev, _, h2⟩ := h
    subst ev
    obtain ⟨v', e', q⟩ := RepDs.get (i := i) (x := x) h2 (by simpa using e)
    exact ⟨v', by simpa using e', q⟩
theorem RepDs.append : ∀ {ds es : List Dat} {vs us : List V}, RepDs K H O ds vs → RepDs K H O es us → RepDs K H O (ds ++ es) (vs ++ us)
  | [], _, _, _, h, h2 => by
    rw [RepDs] at h
    rw [h]
    exact h2
  | d :: ds, es, vs, us, h, h2 => by
    rw [RepDs] at h
    obtain ⟨v, r, ev, h1, h3⟩ := h
    subst ev
    rw [List.cons_append, List.cons_append, RepDs]
    exact ⟨v, _, rfl, h1, RepDs.append h3 h2⟩
theorem RepDs.take : ∀ {ds : List Dat} {vs : List V} (n : Nat), RepDs K H O ds vs → RepDs K H O (ds.take n) (vs.take n)
  | _, _, 0, _ => by rw [List.take_zero, List.take_zero, RepDs]
  | [], vs, n + 1, h => by
    rw [RepDs] at h
    rw [h, List.take_nil, List.take_nil, RepDs]
  | d :: ds, vs, n + 1, h => by
    rw [RepDs] at h
    obtain ⟨v, r, ev, h1, h3⟩ := h
    subst ev
    rw [List.take_succ_cons, List.take_succ_cons, RepDs]
    exact ⟨v, _, rfl, h1, RepDs.take n h3⟩
theorem RepDs.drop : ∀ {ds : List Dat} {vs : List V} (n : Nat), RepDs K H O ds vs → RepDs K H O (ds.drop n) (vs.drop n)
  | _, _, 0, h => h
  | [], vs, n + 1, h => by
    rw [RepDs] at h
    rw [h, List.drop_nil, List.drop_nil, RepDs]
  | d :: ds, vs, n + 1, h => by
    rw [RepDs] at h
    obtain ⟨v, r, ev, h1, h3⟩ := h
    subst ev
    exact RepDs.drop n h3
theorem RepDs.reverse : ∀ {ds : List Dat} {vs : List V}, RepDs K H O ds vs → RepDs K H O ds.reverse vs.reverse
  | [], vs, h => by
    rw [RepDs] at h
    rw [h, List.reverse_nil, List.reverse_nil, RepDs]
  | d :: ds, vs, h => by
    rw [RepDs] at h
    obtain ⟨v, r, ev, h1, h3⟩ := h
    subst ev
    rw [List.reverse_cons, List.reverse_cons]
    refine RepDs.append (RepDs.reverse h3) ?_
    rw [RepDs]
    exact ⟨v, [], rfl, h1, by rw [RepDs]⟩
theorem RepPs.append : ∀ {ps qs : List PV} {vs us : List V} {w u : List Addr}, RepPs K H O ps vs w → RepPs K H O qs us u → RepPs K H O (ps ++ qs) (vs ++ us) (w ++ u)
  | [], _, _, _, _, _, h, h2 => by
    rw [RepPs] at h
    rw [h.1, h.2]
    exact h2
  | p :: ps, qs, vs, us, w, u, h, h2 => by
    rw [RepPs] at h
    obtain ⟨v, r, w1, w2, ev, ew, h1, h3⟩ := h
    subst ev ew
    rw [List.cons_append, List.cons_append, RepPs, List.append_assoc]
    exact ⟨v, _, w1, _, rfl, rfl, h1, RepPs.append h3 h2⟩

/-! ### slots -/
theorem RepS0.length : ∀ {σ : Sto} {s : St} {w : List Addr}, RepS0 K H O σ s w → s.length = σ.length
  | [], _, _, h => by rw [RepS0] at h; rw [h.1]; rfl
  | none :: σ, _, _, h => by
    rw [RepS0] at h
    obtain ⟨_, _, e, h⟩ := h
    rw [e, List.length_cons, List.length_cons, h.length]
  | some p :: σ, _, _, h => by
    rw [RepS0] at h
    obtain ⟨_, _, _, _, e, _, _, h⟩ := h
    rw [e, List.length_cons, List.length_cons, h.length]
theorem RepS.length {σ : Sto} {s : St} {w : List Addr} (h : RepS K H O σ s w) : s.length = σ.length := by
  obtain ⟨_, h, _⟩ := h
  exact h.length
theorem RepS0.take : ∀ {σ : Sto} {s : St} {w : List Addr} {r : Nat} {p : PV}, RepS0 K H O σ s w → σ[r]? = some (some p) →
    ∃ v wr w', s[r]? = some (some v) ∧ RepP K H O p v wr ∧ RepS0 K H O (σ.set r none) s w' ∧ w.Perm (wr ++ w')
  | [], _, _, _, _, _, e => by simp at e
  | none :: σ, s, w, 0, p, h, e => by simp at e
  | none :: σ, s, w, r + 1, p, h, e => by
    rw [RepS0] at h
    obtain ⟨o, t, es, h⟩ := h
    obtain ⟨v, wr, w', e1, h1, h2, h3⟩ := RepS0.take (r := r) (p := p) h (by simpa using e)
    subst es
    refine ⟨v, wr, w', by simpa using e1, h1, ?_, h3⟩
    rw [List.set_cons_succ, RepS0]
    exact ⟨o, t, rfl, h2⟩
  | some q :: σ, s, w, 0, p, h, e => by
    rw [RepS0] at h
    obtain ⟨v, t, w1, w2, es, ew, h1, h2⟩ := h
    simp at e
    subst e es ew
    refine ⟨v, w1, w2, rfl, h1, ?_, List.Perm.refl _⟩
    rw [List.set_cons_zero, RepS0]
    exact ⟨_, t, rfl, h2⟩
  | some q :: σ, s, w, r + 1, p, h, e => by
    rw [RepS0] at h
    obtain ⟨v, t, w1, w2, es, ew, h1, h2⟩ := h
    obtain ⟨v', wr, w', e1, h3, h4, h5⟩ := RepS0.take (r := r) (p := p) h2 (by simpa using e)
    subst es ew
    refine ⟨v', wr, w1 ++ w', by simpa using e1, h3, ?_, ?_⟩
    · rw [List.set_cons_succ, RepS0]
      exact ⟨v, t, w1, w', rfl, rfl, h1, h4⟩
    · refine (List.Perm.append_left w1 h5).trans ?_
      rw [← List.append_assoc, ← List.append_assoc]
      exact List.Perm.append_right _ List.perm_append_comm
theorem RepS.take {σ : Sto} {s : St} {w : List Addr} {r : Nat} {p : PV} (h : RepS K H O σ s w) (e : σ[r]? = some (some p)) :
    ∃ v wr w', s[r]? = some (some v) ∧ RepP K H O p v wr ∧ RepS K H O (σ.set r none) s w' ∧ w.Perm (wr ++ w') := by
  obtain ⟨w0, h, q⟩ := h
  obtain ⟨v, wr, w', e1, h1, h2, h3⟩ := h.take e
  exact ⟨v, wr, w', e1, h1, ⟨w', h2, List.Perm.refl _⟩, q.symm.trans h3⟩
theorem RepS0.put : ∀ {σ : Sto} {s : St} {w : List Addr} {r : Nat} {p : PV} {v : V} {wr : List Addr}, RepS0 K H O (σ.set r none) s w → s[r]? = some (some v) → RepP K H O p v wr →
    ∃ w', RepS0 K H O (σ.set r (some p)) s w' ∧ w'.Perm (wr ++ w)
  | [], _, _, _, _, _, _, h, e, _ => by
    rw [List.set_nil, RepS0] at h
    rw [h.1] at e
    simp at e
  | o :: σ, s, w, 0, p, v, wr, h, e, hp => by
    rw [List.set_cons_zero, RepS0] at h
    obtain ⟨o', t, es, h⟩ := h
    subst es
    simp at e
    subst e
    refine ⟨wr ++ w, ?_, List.Perm.refl _⟩
    rw [List.set_cons_zero, RepS0]
    exact ⟨v, t, wr, w, rfl, rfl, hp, h⟩
  | none :: σ, s, w, r + 1, p, v, wr, h, e, hp => by
    rw [List.set_cons_succ, RepS0] at h
    obtain ⟨o', t, es, h⟩ := h
    subst es
    obtain ⟨w', h1, h2⟩ := RepS0.put (r := r) h (by simpa using e) hp
    refine ⟨w', ?_, h2⟩
    rw [List.set_cons_succ, RepS0]
    exact ⟨o', t, rfl, h1⟩
  | some q :: σ, s, w, r + 1, p, v, wr, h, e, hp => by
    rw [List.set_cons_succ, RepS0] at h
    obtain ⟨v', t, w1, w2, es, ew, h1, h2⟩ := h
    subst es ew
    obtain ⟨w', h3, h4⟩ := RepS0.put (r := r) h2 (by simpa using e) hp
    refine ⟨w1 ++ w', ?_, ?_⟩
    · rw [List.set_cons_succ, RepS0]
      exact ⟨v', t, w1, w', rfl, rfl, h1, h3⟩
    · refine (List.Perm.append_left w1 h4).trans ?_
      rw [← List.append_assoc, ← List.append_assoc]
      exact List.Perm.append_right _ List.perm_append_comm
/-- a slot filled, its V as it stands -/
theorem RepS.put {σ : Sto} {s : St} {w : List Addr} {r : Nat} {p : PV} {v : V} {wr : List Addr} (h : RepS K H O (σ.set r none) s w) (e : s[r]? = some (some v)) (hp : RepP K H O p v wr) : RepS K H O (σ.set r (some p)) s (wr ++ w) := by
  obtain ⟨w0, h, q⟩ := h
  obtain ⟨w', h1, h2⟩ := h.put e hp
  exact ⟨w', h1, h2.trans (List.Perm.append_left wr q)⟩
theorem RepS0.drop : ∀ {σ : Sto} {s : St} {w : List Addr} (r : Nat) (o : Option V), RepS0 K H O σ s w → ∃ wd w', RepS0 K H O (σ.set r none) (s.set r o) w' ∧ w.Perm (wd ++ w')
  | [], s, w, r, o, h => by
    rw [RepS0] at h
    refine ⟨[], w, ?_, List.Perm.refl _⟩
    rw [h.1, h.2, List.set_nil, List.set_nil, RepS0]
    exact ⟨rfl, rfl⟩
  | none :: σ, s, w, 0, o, h => by
    rw [RepS0] at h
    obtain ⟨o', t, es, h⟩ := h
    subst es
    refine ⟨[], w, ?_, List.Perm.refl _⟩
    rw [List.set_cons_zero, List.set_cons_zero, RepS0]
    exact ⟨o, t, rfl, h⟩
  | some p :: σ, s, w, 0, o, h => by
    rw [RepS0] at h
    obtain ⟨v, t, w1, w2, es, ew, h1, h2⟩ := h
    subst es ew
    refine ⟨w1, w2, ?_, List.Perm.refl _⟩
    rw [List.set_cons_zero, List.set_cons_zero, RepS0]
    exact ⟨o, t, rfl, h2⟩
  | none :: σ, s, w, r + 1, o, h => by
    rw [RepS0] at h
    obtain ⟨o', t, es, h⟩ := h
    subst es
    obtain ⟨wd, w', h1, h2⟩ := RepS0.drop r o h
    refine ⟨wd, w', ?_, h2⟩
    rw [List.set_cons_succ, List.set_cons_succ, RepS0]
    exact ⟨o', _, rfl, h1⟩
  | some p :: σ, s, w, r + 1, o, h => by
    rw [RepS0] at h
    obtain ⟨v, t, w1, w2, es, ew, h1, h2⟩ := h
    subst es ew
    obtain ⟨wd, w', h3, h4⟩ := RepS0.drop r o h2
    refine ⟨wd, w1 ++ w', ?_, ?_⟩
    · rw [List.set_cons_succ, List.set_cons_succ, RepS0]
      exact ⟨v, _, w1, w', rfl, rfl, h1, h3⟩
    · refine (List.Perm.append_left w1 h4).trans ?_
      rw [← List.append_assoc, ← List.append_assoc]
      exact List.Perm.append_right _ List.perm_append_comm
/-- a slot forgotten, its V changed -/
theorem RepS.drop {σ : Sto} {s : St} {w : List Addr} (r : Nat) (o : Option V) (h : RepS K H O σ s w) : ∃ wd w', RepS K H O (σ.set r none) (s.set r o) w' ∧ w.Perm (wd ++ w') := by
  obtain ⟨w0, h, q⟩ := h
  obtain ⟨wd, w', h1, h2⟩ := h.drop r o
  exact ⟨wd, w', ⟨w', h1, List.Perm.refl _⟩, q.symm.trans h2⟩

/-! ### states -/
structure Good (K : PySem.W.Frag) (H : Hp) (σ : Sto) (s : St) (w R : List Addr) : Prop where
  rep : RepS K H (w ++ R) σ s w
  nd : (w ++ R).Nodup
  mu : ∀ b ∈ w ++ R, Mut (H b)
/-- from w in H to w' in H': nothing but w is touched, w' is old or new -/
structure Step (w : List Addr) (H : Hp) (w' : List Addr) (H' : Hp) : Prop where
  keep : ∀ b o, H b = some o → b ∉ w → H' b = some o
  old : ∀ b ∈ w', b ∈ w ∨ H b = none
theorem Step.refl {w : List Addr} : Step w H w H := ⟨fun _ _ h _ => h, fun _ h => .inl h⟩
theorem Step.trans {H1 H2 : Hp} {w w1 w2 : List Addr} (a : Step w H w1 H1) (b : Step w1 H1 w2 H2) : Step w H w2 H2 where
  keep := fun x o h n => b.keep x o (a.keep x o h n) fun z => by
    rcases a.old x z with q | q
    · exact n q
    · rw [h] at q; cases q
  old := fun x h => by
    rcases b.old x h with q | q
    · exact a.old x q
    · cases e : H x with
      | none => exact .inr rfl
      | some o =>
        by_cases z : x ∈ w
        · exact .inl z
        · rw [a.keep x o e z] at q; cases q
theorem Step.less {H' : Hp} {w w' w2 : List Addr} (a : Step w H w' H') (h : ∀ b ∈ w2, b ∈ w') : Step w H w2 H' := ⟨a.keep, fun b hb => a.old b (h b hb)⟩
/-- nothing changed but new objects -/
theorem Step.same {w : List Addr} (k : ∀ b o, H b = some o → H' b = some o) : Step w H w H' := ⟨fun b o h _ => k b o h, fun _ h => .inl h⟩
theorem Mut.some {H : Hp} {b : Addr} (h : Mut (H b)) : ∃ o, H b = some o := by
  cases e : H b with
  | none => rw [e] at h; exact h.elim
  | some o => exact ⟨o, rfl⟩
/-- what is data in (H, O) is data in (H', O') -/
theorem Step.ext {w w' O O' : List Addr} (t : Step w H w' H') (mu : ∀ b ∈ w, Mut (H b)) (hw : ∀ b ∈ w, b ∈ O) (hO : ∀ b ∈ O', b ∈ O ∨ H b = none) : Ext K H O H' O' where
  tup := fun a vs q => by
    rcases q with (q | ⟨o, q⟩) | q
    · exact .inl (.inl (t.keep a _ q fun z => by have := mu a z; rw [q] at this; exact this))
    · exact .inl (.inr ⟨o, t.keep a _ q fun z => by have := mu a z; rw [q] at this; exact this⟩)
    · exact .inr q
  lst := fun a vs q n => by
    have nO : ∀ o, H a = some o → a ∉ O' := fun o e z => by
      rcases hO a z with z | z
      · exact n z
      · rw [e] at z; cases z
    exact ⟨t.keep a _ q fun z => n (hw a z), nO _ q⟩
  scr := fun a vs q => by
    rcases q with ⟨o, q⟩ | q
    · exact .inl ⟨o, t.keep a _ q fun z => by have := mu a z; rw [q] at this; exact this⟩
    · exact .inr q
  dic := fun a o _ q n => by
    have nO : ∀ o, H a = some o → a ∉ O' := fun o e z => by
      rcases hO a z with z | z
      · exact n z
      · rw [e] at z; cases z
    exact ⟨t.keep a _ q fun z => n (hw a z), nO _ q⟩
theorem Good.permR {σ : Sto} {s : St} {w R R' : List Addr} (g : Good K H σ s w R) (p : R.Perm R') : Good K H σ s w R' where
  rep := g.rep.ext (Ext.less fun b hb => by
    rcases List.mem_append.mp hb with h | h
    · exact List.mem_append_left _ h
    · exact List.mem_append_right _ (p.mem_iff.mpr h)) (fun _ _ _ h => h)
  nd := ((List.Perm.append_left w p).nodup_iff).mp g.nd
  mu := fun b hb => g.mu b (by
    rcases List.mem_append.mp hb with h | h
    · exact List.mem_append_left _ h
    · exact List.mem_append_right _ (p.mem_iff.mpr h))
theorem Good.permW {σ : Sto} {s : St} {w w' R : List Addr} (g : Good K H σ s w R) (p : w.Perm w') : Good K H σ s w' R where
  rep := (g.rep.perm p).ext (Ext.less fun b hb => by
    rcases List.mem_append.mp hb with h | h
    · exact List.mem_append_left _ (p.mem_iff.mpr h)
    · exact List.mem_append_right _ h) (fun _ _ _ h => h)
  nd := ((List.Perm.append_right R p).nodup_iff).mp g.nd
  mu := fun b hb => g.mu b (by
    rcases List.mem_append.mp hb with h | h
    · exact List.mem_append_left _ (p.mem_iff.mpr h)
    · exact List.mem_append_right _ h)
/-- fewer foreign ones -/
theorem Good.lessR {σ : Sto} {s : St} {w R R' : List Addr} (g : Good K H σ s w R) (h : R'.Sublist R) : Good K H σ s w R' where
  rep := g.rep.ext (Ext.less fun b hb => by
    rcases List.mem_append.mp hb with q | q
    · exact List.mem_append_left _ q
    · exact List.mem_append_right _ (h.subset q)) (fun _ _ _ h => h)
  nd := g.nd.sublist (List.Sublist.append (List.Sublist.refl _) h)
  mu := fun b hb => g.mu b (by
    rcases List.mem_append.mp hb with q | q
    · exact List.mem_append_left _ q
    · exact List.mem_append_right _ (h.subset q))
/-- new objects alone -/
theorem Good.keep {σ : Sto} {s : St} {w R : List Addr} (g : Good K H σ s w R) (k : ∀ b o, H b = some o → H' b = some o) : Good K H' σ s w R where
  rep := g.rep.ext ((Step.same (w := w) k).ext (fun b hb => g.mu b (List.mem_append_left _ hb)) (fun b hb => List.mem_append_left _ hb) fun b hb => .inl hb) (fun a _ o e => k a o e)
  nd := g.nd
  mu := fun b hb => by
    have m := g.mu b hb
    obtain ⟨o, e⟩ := Mut.some m
    rw [k b o e, ← e]
    exact m
end
end R

/-! A3: the readings by the evaluator; the rules for expressions. -/
namespace R
open PySem PySem.Spec L2
open PyProof.Rows hiding St
theorem PE.weak {X : Cx} {e : Expr} {t t' : TE} (h : PE X e t) (k : ∀ σ H Q, t' σ H Q → t σ H Q) : PE X e t' := ⟨fun pins s σ H Q I q => h.run pins s σ H Q I (k σ H Q q)⟩
theorem PT.weak {X : Cx} {e : Expr} {t t' : TT} (h : PT X e t) (k : ∀ σ H Q, t' σ H Q → t σ H Q) : PT X e t' := ⟨fun pins s σ H Q I q => h.run pins s σ H Q I (k σ H Q q)⟩
theorem PW.weak {X : Cx} {e : Expr} {t t' : TT} (h : PW X e t) (k : ∀ σ H Q, t' σ H Q → t σ H Q) : PW X e t' := ⟨fun wh pins s σ H Q I q => h.run wh pins s σ H Q I (k σ H Q q)⟩
theorem PA.weak {X : Cx} {es : List Expr} {t t' : TA} (h : PA X es t) (k : ∀ σ H Q, t' σ H Q → t σ H Q) : PA X es t' := ⟨fun ps pins s σ H Q I q => h.run ps pins s σ H Q I (k σ H Q q)⟩
section
variable (K : PySem.W.Frag) (W : WX)
/-- an exception of a class of the program's, its fields -/
def ExcAt (H : Hp) (O : List Addr) (c : Str) (fs : List (Str × Dat)) (cls : Value) (d : Option Addr) : Prop :=
  cls = .ref (He.ga K c) ∧ ∃ dd fv, d = some dd ∧ H dd = some (.xd fv) ∧ ∀ f x, fs.lookup f = some x → ∃ v, fv.lookup f = some v ∧ RepD K H O x v
def FinX (H : Hp) (s : St) (w R : List Addr) (c : Str) (fs : List (Str × Dat)) (σ' : Sto) (cls : Value) (d : Option Addr) (H' : Hp) : Prop :=
  ∃ w', Good K H' σ' s w' R ∧ Step w H w' H' ∧ ExcAt K H' (w' ++ R) c fs cls d
def OutX (H : Hp) (s : St) (w R : List Addr) (c : Str) (fs : List (Str × Dat)) (σ' : Sto) : Prop := ∀ cls d H', FinX K H s w R c fs σ' cls d H' → W cls d s H'
/-- an outcome: ok by what is wanted of it, an exception by the wish W -/
def Out {α : Type} (H : Hp) (s : St) (w R : List Addr) (ok : α → Sto → Prop) : Res α → Prop
  | .ok a σ' => ok a σ'
  | .exc c fs σ' => OutX K W H s w R c fs σ'
  | .bad => False
def FinV (H : Hp) (s : St) (w R : List Addr) (p : PV) (σ' : Sto) (v : V) (H' : Hp) : Prop :=
  ∃ w' wv, Good K H' σ' s w' (wv ++ R) ∧ RepP K H' (w' ++ (wv ++ R)) p v wv ∧ Step w H (w' ++ wv) H'
def OkV (H : Hp) (s : St) (w R : List Addr) (Q : VK) : PV → Sto → Prop := fun p σ' => ∀ v H', FinV K H s w R p σ' v H' → Q v H'
/-- the reading of e: its value -/
def T (C : CF) (e : E) : TE := fun s H Q => ∃ σ w R, Good K H σ s w R ∧ Out K W H s w R (OkV K H s w R Q) (evalE C e σ)
/-- .. seen for a moment -/
def FinW (H : Hp) (s : St) (w R : List Addr) (x : Dat) (σ' : Sto) (v : V) (H' : Hp) : Prop :=
  ∃ w', Good K H' σ' s w' R ∧ RepD K H' [] x v ∧ Step w H w' H' ∧ (∀ xs, x = .lst xs → ∃ a vs, v = .ref a ∧ H' a = some (.lst vs) ∧ RepDs K H' (w' ++ R) xs vs) ∧ ((∀ xs, x ≠ .lst xs) → RepD K H' (w' ++ R) x v)
def OkW (H : Hp) (s : St) (w R : List Addr) (Q : VK) : PV → Sto → Prop := fun p σ' => ∀ v H', FinW K H s w R p.frz σ' v H' → Q v H'
def TV (C : CF) (e : E) : TE := fun s H Q => ∃ σ w R, Good K H σ s w R ∧ Out K W H s w R (OkW K H s w R Q) (evalE C e σ)
/-- .. as a test -/
def OkT (H : Hp) (s : St) (w R : List Addr) (Q : Bool → Hp → Prop) : Bool → Sto → Prop := fun b σ' => ∀ H' w', Good K H' σ' s w' R → Step w H w' H' → Q b H'
def TT' (C : CF) (e : E) : TT := fun s H Q => ∃ σ w R, Good K H σ s w R ∧ Out K W H s w R (OkT K H s w R Q) ((evalE C e σ).bind fun p σ1 => optR (truO p.frz) σ1)
end
section
variable {K : PySem.W.Frag} {W : WX} {C : CF} {H H1 H' : Hp} {s : St} {w w1 R wv : List Addr} {σ σ1 : Sto} {Q : VK}
theorem ExcAt.less {O O' : List Addr} {c : Str} {fs : List (Str × Dat)} {cls : Value} {d : Option Addr} (h : ExcAt K H O c fs cls d) (k : ∀ b ∈ O', b ∈ O) : ExcAt K H O' c fs cls d := by
  obtain ⟨e, dd, fv, e1, e2, r⟩ := h
  refine ⟨e, dd, fv, e1, e2, fun f x z => ?_⟩
  obtain ⟨v, h1, h2⟩ := r f x z
  exact ⟨v, h1, RepD.ext (Ext.less k) _ _ h2⟩
/-- behind a part: its owned value pending -/
theorem OutX.step {c : Str} {fs : List (Str × Dat)} {σ' : Sto} (h : OutX K W H s w R c fs σ') (t : Step w H (w1 ++ wv) H1) : OutX K W H1 s w1 (wv ++ R) c fs σ' := by
  rintro cls d H' ⟨w', g, t', x⟩
  exact h cls d H' ⟨w', g.lessR (List.sublist_append_right _ _), (t.less fun b hb => List.mem_append_left _ hb).trans t', x.less fun b hb => by
    rcases List.mem_append.mp hb with z | z
    · exact List.mem_append_left _ z
    · exact List.mem_append_right _ (List.mem_append_right _ z)⟩
theorem OutX.step0 {c : Str} {fs : List (Str × Dat)} {σ' : Sto} (h : OutX K W H s w R c fs σ') (t : Step w H w1 H1) : OutX K W H1 s w1 R c fs σ' := OutX.step (wv := []) h (by simpa using t)
theorem Out.map {α : Type} {ok ok' : α → Sto → Prop} {r : Res α} (h : Out K W H s w R ok r) (t : Step w H w1 H1) (k : ∀ a σ', ok a σ' → ok' a σ') : Out K W H1 s w1 R ok' r := by
  cases r with
  | ok a σ' => exact k a σ' h
  | exc c fs σ' => exact OutX.step0 h t
  | bad => exact h
theorem FinV.back {p : PV} {σ' : Sto} {v : V} (t : Step w H w1 H1) (f : FinV K H1 s w1 R p σ' v H') : FinV K H s w R p σ' v H' := by
  obtain ⟨w', wv, g, r, t'⟩ := f
  exact ⟨w', wv, g, r, t.trans t'⟩
theorem OutV.step {r : Res PV} (h : Out K W H s w R (OkV K H s w R Q) r) (t : Step w H w1 H1) : Out K W H1 s w1 R (OkV K H1 s w1 R Q) r :=
  h.map t fun p σ' k v H' f => k v H' (f.back t)
/-! ### from a value to data -/
theorem Good.frz {p : PV} {v : V} (g : Good K H σ s w (wv ++ R)) (r : RepP K H (w ++ (wv ++ R)) p v wv) : Good K H σ s w R ∧ RepD K H (w ++ R) p.frz v := by
  refine ⟨g.lessR (List.sublist_append_right _ _), r.frz _ _ _ fun b hb => ⟨?_, fun z => ?_⟩⟩
  · rcases List.mem_append.mp hb with q | q
    · exact List.mem_append_left _ q
    · exact List.mem_append_right _ (List.mem_append_right _ q)
  · have nd := g.nd
    rcases List.mem_append.mp hb with q | q
    · exact (List.nodup_append.mp nd).2.2 b q b (List.mem_append_left _ z) rfl
    · exact (List.nodup_append.mp (List.nodup_append.mp nd).2.1).2.2 b z b q rfl
/-- the end of a rule: data -/
theorem OkV.data {x : Dat} {v : V} (h : OkV K H s w R Q (.d x) σ1) (g : Good K H1 σ1 s w1 R) (t : Step w H w1 H1) (r : RepD K H1 (w1 ++ R) x v) : Q v H1 :=
  h v H1 ⟨w1, [], by simpa using g, by rw [RepP]; exact ⟨rfl, by simpa using r⟩, by simpa using t⟩
theorem upd_keep {p : Addr} {o : HO} (hp : H p = none) : ∀ b u, H b = some u → upd H p o b = some u := fun b u e => by
  rw [upd_ne (ne_of_none e hp)]
  exact e
/-- a new tuple -/
theorem OkV.tupD {xs : List Dat} {vs : List V} (h : OkV K H s w R Q (.d (.tup xs)) σ1) (g : Good K H1 σ1 s w1 R) (t : Step w H w1 H1) (r : RepDs K H1 (w1 ++ R) xs vs) {p : Addr} (hp : H1 p = none) : Q (.ref p) (upd H1 p (.tup vs)) := by
  have k := upd_keep (o := .tup vs) hp
  refine h.data (g.keep k) (t.trans (Step.same k)) ?_
  rw [RepD]
  refine ⟨p, vs, rfl, .inl (.inl upd_same), RepDs.ext ((Step.same (w := w1) k).ext (fun b hb => g.mu b (List.mem_append_left _ hb)) (fun b hb => List.mem_append_left _ hb) fun b hb => .inl hb) _ _ r⟩
/-- a new list, owned -/
theorem OkV.lstP {xs : List PV} {vs : List V} (h : OkV K H s w R Q (.lst xs) σ1) (g : Good K H1 σ1 s w1 (wv ++ R)) (t : Step w H (w1 ++ wv) H1) (r : RepPs K H1 (w1 ++ (wv ++ R)) xs vs wv) {p : Addr} (hp : H1 p = none) : Q (.ref p) (upd H1 p (.lst vs)) := by
  have k := upd_keep (o := .lst vs) hp
  have np : p ∉ w1 ++ (wv ++ R) := fun z => by
    have m := g.mu p z
    rw [hp] at m
    exact m
  have g' := g.keep k
  have x : Ext K H1 (w1 ++ (wv ++ R)) (upd H1 p (.lst vs)) (w1 ++ ((p :: wv) ++ R)) := (Step.same (w := w1) k).ext (fun b hb => g.mu b (List.mem_append_left _ hb)) (fun b hb => List.mem_append_left _ hb) fun b hb => by
    rcases List.mem_append.mp hb with q | q
    · exact .inl (List.mem_append_left _ q)
    · rcases List.mem_cons.mp (show b ∈ p :: (wv ++ R) from q) with q | q
      · rw [q]
        exact .inr hp
      · exact .inl (List.mem_append_right _ q)
  refine h _ _ ⟨w1, p :: wv, ⟨g.rep.ext x (fun a _ o e => k a o e), ?_, fun b hb => ?_⟩, ?_, ⟨fun b o e n => k b o (t.keep b o e n), fun b hb => ?_⟩⟩
  · have e : (w1 ++ ((p :: wv) ++ R)).Perm (p :: (w1 ++ (wv ++ R))) := by
      show (w1 ++ p :: (wv ++ R)).Perm _
      exact List.perm_middle
    rw [e.nodup_iff, List.nodup_cons]
    exact ⟨np, g.nd⟩
  · have hb' : b = p ∨ b ∈ w1 ++ (wv ++ R) := by
      rcases List.mem_append.mp hb with q | q
      · exact .inr (List.mem_append_left _ q)
      · rcases List.mem_cons.mp (show b ∈ p :: (wv ++ R) from q) with q | q
        · exact .inl q
        · exact .inr (List.mem_append_right _ q)
    rcases hb' with q | q
    · rw [q, upd_same]
      exact True.intro
    · exact g'.mu b q
  · rw [RepP]
    exact ⟨p, vs, wv, rfl, rfl, upd_same, RepPs.ext x _ _ _ (fun a _ o e => k a o e) r⟩
  · rcases List.mem_append.mp hb with q | q
    · exact t.old b (List.mem_append_left _ q)
    · rcases List.mem_cons.mp q with q | q
      · rw [q]
        cases e : H p with
        | none => exact .inr rfl
        | some o =>
          by_cases z : p ∈ w
          · exact .inl z
          · rw [t.keep p o e z] at hp; cases hp
      · exact t.old b (List.mem_append_right _ q)
theorem OkV.lstD {xs : List Dat} {vs : List V} (h : OkV K H s w R Q (dl xs) σ1) (g : Good K H1 σ1 s w1 R) (t : Step w H w1 H1) (r : RepDs K H1 (w1 ++ R) xs vs) {p : Addr} (hp : H1 p = none) : Q (.ref p) (upd H1 p (.lst vs)) :=
  OkV.lstP (wv := []) h (by simpa using g) (by simpa using t) (by simpa using r.toP) hp
/-! ### parts -/
theorem T.of {α : Type} {e : E} {f : PV → Sto → Res α} {ok : α → Sto → Prop} (g : Good K H σ s w R) (h : Out K W H s w R ok ((evalE C e σ).bind f))
    (k : ∀ p σ1 v H1 w1 wv, Good K H1 σ1 s w1 (wv ++ R) → RepP K H1 (w1 ++ (wv ++ R)) p v wv → Step w H (w1 ++ wv) H1 → Out K W H s w R ok (f p σ1) → Q v H1) : T K W C e s H Q := by
  refine ⟨σ, w, R, g, ?_⟩
  cases e1 : evalE C e σ with
  | ok p σ1 =>
    rw [e1] at h
    rintro v H1 ⟨w1, wv, g1, r1, t1⟩
    exact k p σ1 v H1 w1 wv g1 r1 t1 h
  | exc c fs σ1 =>
    rw [e1] at h
    exact h
  | bad =>
    rw [e1] at h
    exact h
/-- .. given up at once -/
theorem T.ofD {α : Type} {e : E} {f : PV → Sto → Res α} {ok : α → Sto → Prop} (g : Good K H σ s w R) (h : Out K W H s w R ok ((evalE C e σ).bind f))
    (k : ∀ p σ1 v H1 w1, Good K H1 σ1 s w1 R → RepD K H1 (w1 ++ R) p.frz v → Step w H w1 H1 → Out K W H s w R ok (f p σ1) → Q v H1) : T K W C e s H Q :=
  T.of g h fun p σ1 v H1 w1 wv g1 r1 t1 h1 => by
    obtain ⟨g2, r2⟩ := g1.frz r1
    exact k p σ1 v H1 w1 g2 r2 (t1.less fun b hb => List.mem_append_left _ hb) h1
/-- .. seen for a moment -/
theorem TV.ofW {α : Type} {e : E} {f : PV → Sto → Res α} {ok : α → Sto → Prop} (g : Good K H σ s w R) (h : Out K W H s w R ok ((evalE C e σ).bind f))
    (k : ∀ p σ1 v H1, FinW K H s w R p.frz σ1 v H1 → Out K W H s w R ok (f p σ1) → Q v H1) : TV K W C e s H Q := by
  refine ⟨σ, w, R, g, ?_⟩
  cases e1 : evalE C e σ with
  | ok p σ1 =>
    rw [e1] at h
    intro v H1 f1
    exact k p σ1 v H1 f1 h
  | exc c fs σ1 =>
    rw [e1] at h
    exact h
  | bad =>
    rw [e1] at h
    exact h
theorem RepD.nil {O : List Addr} {x : Dat} {v : V} (r : RepD K H O x v) : RepD K H [] x v := RepD.ext (Ext.less fun b hb => by cases hb) _ _ r
theorem FinW.of {x : Dat} {v : V} (g : Good K H1 σ1 s w1 R) (r : RepD K H1 (w1 ++ R) x v) (t : Step w H w1 H1) : FinW K H s w R x σ1 v H1 := by
  refine ⟨w1, g, r.nil, t, fun xs e => ?_, fun _ => r⟩
  subst e
  rw [RepD] at r
  obtain ⟨a, vs, e, _, q, rs⟩ := r
  exact ⟨a, vs, e, q, rs⟩
/-- a value may be seen -/
theorem T.toV {e : E} (h : TV K W C e s H Q) : T K W C e s H Q := by
  obtain ⟨σ, w, R, g, h⟩ := h
  refine ⟨σ, w, R, g, ?_⟩
  cases e1 : evalE C e σ with
  | ok p σ1 =>
    rw [e1] at h
    rintro v H1 ⟨w1, wv, g1, r1, t1⟩
    obtain ⟨g2, r2⟩ := g1.frz r1
    exact h v H1 (FinW.of g2 r2 (t1.less fun b hb => List.mem_append_left _ hb))
  | exc c fs σ1 =>
    rw [e1] at h
    exact h
  | bad =>
    rw [e1] at h
    exact h
theorem Out.ofOpt {α : Type} {ok : α → Sto → Prop} {o : Option α} (h : Out K W H s w R ok (optR o σ1)) : ∃ a, o = some a ∧ ok a σ1 := by
  cases o with
  | none => exact h.elim
  | some a => exact ⟨a, rfl, h⟩
theorem Out.ofBind {α β : Type} {ok : β → Sto → Prop} {o : Option α} {f : α → Sto → Res β} (h : Out K W H s w R ok ((optR o σ1).bind f)) : ∃ a, o = some a ∧ Out K W H s w R ok (f a σ1) := by
  cases o with
  | none => exact h.elim
  | some a => exact ⟨a, rfl, h⟩
end
end R

/-! A4: operators. -/
namespace R
open PySem PySem.Spec L2
open PyProof.Rows hiding St
section
variable {K : PySem.W.Frag} {W : WX} {C : CF} {H H1 H2 H' : Hp} {s : St} {w w1 w2 R wv O : List Addr} {σ σ1 σ2 : Sto} {Q : VK}
theorem Good.ext (g : Good K H1 σ1 s w1 R) (t : Step w1 H1 w2 H2) : Ext K H1 (w1 ++ R) H2 (w2 ++ R) :=
  t.ext (fun b hb => g.mu b (List.mem_append_left _ hb)) (fun b hb => List.mem_append_left _ hb) fun b hb => by
    rcases List.mem_append.mp hb with q | q
    · rcases t.old b q with z | z
      · exact .inl (List.mem_append_left _ z)
      · exact .inr z
    · exact .inl (List.mem_append_right _ q)
mutual
theorem RepD.dp : ∀ (x : Dat) (v : V), noDic x = true → RepD K H O x v → Dp K H v x.py
  | .non, v, _, r => by rw [RepD] at r; subst r; exact .non
  | .bl b, v, _, r => by rw [RepD] at r; subst r; exact .bl b
  | .int i, v, _, r => by rw [RepD] at r; subst r; exact .int i
  | .str x, v, _, r => by rw [RepD] at r; subst r; exact .str x
  | .tup xs, v, h, r => by
    rw [RepD] at r
    obtain ⟨a, vs, e, q, rs⟩ := r
    subst e
    rw [Dat.py]
    exact .tup q (RepDs.dp xs vs (by simpa [noDic] using h) rs)
  | .lst xs, v, h, r => by
    rw [RepD] at r
    obtain ⟨a, vs, e, _, q, rs⟩ := r
    subst e
    rw [Dat.py]
    exact .lst (.of q) (RepDs.dp xs vs (by simpa [noDic] using h) rs)
  | .dic _ _ _, _, h, _ => by simp [noDic] at h
  | .set _, _, h, _ => by simp [noDic] at h
  | .scr _, _, h, _ => by simp [noDic] at h
theorem RepDs.dp : ∀ (xs : List Dat) (vs : List V), noDics xs = true → RepDs K H O xs vs → DpAll K H vs (pys xs)
  | [], vs, _, r => by
    rw [RepDs] at r
    subst r
    rw [pys]
    exact .nil
  | x :: xs, vs, h, r => by
    rw [RepDs] at r
    obtain ⟨v, t, e, r1, r2⟩ := r
    subst e
    have h' : noDic x = true ∧ noDics xs = true := by simpa [noDics] using h
    rw [pys]
    exact .cons (RepD.dp x v h'.1 r1) (RepDs.dp xs t h'.2 r2)
end
theorem pys_any (xs : List Dat) (f : PyData → Bool) : (pys xs).any f = xs.any fun z => f z.py := by
  induction xs with
  | nil => simp [pys]
  | cons x r ih => simp [pys, ih]

/-! ### a op b -/
def bopA : Bop → Operator
  | .add => .Add | .sub => .Sub | .mul => .Mult | .fdiv => .FloorDiv | .mod => .Mod | .pow => .Pow | .shl => .LShift
abbrev rAddI : R2 := rI0 fun i j => .int (i + j)
abbrev rAddS : R2 := fun x y H Q => ∃ i j : Str, x = .str i ∧ y = .str j ∧ i.length + j.length ≤ sizeLine ∧ Q (.str (i ++ j)) H
def rBin (K : PySem.W.Frag) : Bop → R2
  | .add => fun x y H Q => rAddI x y H Q ∨ (rAddS x y H Q ∨ (rCatA K x y H Q ∨ rCat x y H Q))
  | .sub => rI0 fun i j => .int (i - j)
  | .mul => fun x y H Q => rI CMul (fun i j => .int (i * j)) x y H Q ∨ (rI CMulW (fun i j => .int (i * j)) x y H Q ∨ rRep x y H Q)
  | .fdiv => rI CDivW fun i j => .int (i / j)
  | .mod => rI (fun _ j => 0 < j) fun i j => .int (i % j)
  | .pow => rI CPow fun i j => .int (i ^ j.toNat)
  | .shl => rI CPow fun i j => .int (i * 2 ^ j.toNat)
theorem op_bin {X : Cx} (bo : Bop) : OpR X (binaryOp (bopA bo)) (rBin X.K bo) := by
  cases bo
  · exact OpR.or op_add (OpR.or op_add_str (OpR.or op_catA op_cat))
  · exact op_sub
  · exact OpR.or op_mul (OpR.or op_mulW op_rep)
  · exact op_fdivW
  · exact op_mod
  · exact op_pow
  · exact op_shl
theorem RepDs.rep {xs : List Dat} {vs : List V} (r : RepDs K H O xs vs) : ∀ n : Nat, RepDs K H O (List.replicate n xs).flatten (List.replicate n vs).flatten
  | 0 => by
    simp only [List.replicate_zero, List.flatten_nil]
    rw [RepDs]
  | n + 1 => by
    simp only [List.replicate_succ, List.flatten_cons]
    exact r.append (RepDs.rep r n)
theorem bin_end {bo : Bop} {a b : Dat} {z : PV} {x y : V} (e : binD bo a b = some z) (g : Good K H1 σ1 s w1 R) (t : Step w H w1 H1) (ra : RepD K H1 (w1 ++ R) a x) (rb : RepD K H1 (w1 ++ R) b y) (ok : OkV K H s w R Q z σ1) : rBin K bo x y H1 Q := by
  unfold binD at e
  split at e
  case h_1 => cases e; simp only [RepD] at ra rb; exact .inl ⟨_, _, ra, rb, ok.data g t (by rw [RepD])⟩
  case h_2 => cases e; simp only [RepD] at ra rb; exact ⟨_, _, ra, rb, ok.data g t (by rw [RepD])⟩
  case h_3 =>
    split at e
    · rename_i i j c
      cases e
      simp only [RepD] at ra rb
      have q : Q (.int (i * j)) H1 := ok.data g t (by rw [RepD])
      simp only [Bool.or_eq_true, decide_eq_true_eq] at c
      rcases c with (c | c) | c
      · exact .inl ⟨_, _, ra, rb, .inl (small_ok c), q⟩
      · exact .inl ⟨_, _, ra, rb, .inr (small_ok c), q⟩
      · exact .inr (.inl ⟨_, _, ra, rb, c, q⟩)
    · cases e
  case h_4 =>
    split at e
    · rename_i c
      cases e
      simp only [RepD] at ra rb
      have c' := of_decide_eq_true c
      exact ⟨_, _, ra, rb, c', ok.data g t (by rw [RepD])⟩
    · cases e
  case h_5 =>
    split at e
    · rename_i c
      cases e
      simp only [RepD] at ra rb
      have c' := of_decide_eq_true c
      exact ⟨_, _, ra, rb, c', ok.data g t (by rw [RepD])⟩
    · cases e
  case h_6 =>
    split at e
    · rename_i c
      cases e
      simp only [RepD] at ra rb
      have c' := of_decide_eq_true c
      exact ⟨_, _, ra, rb, c', ok.data g t (by rw [RepD])⟩
    · cases e
  case h_7 =>
    split at e
    · rename_i c
      cases e
      simp only [RepD] at ra rb
      have c' := of_decide_eq_true c
      exact ⟨_, _, ra, rb, c', ok.data g t (by rw [RepD])⟩
    · cases e
  case h_8 =>
    split at e
    · rename_i c
      cases e
      simp only [RepD] at ra rb
      exact .inr (.inl ⟨_, _, ra, rb, of_decide_eq_true c, ok.data g t (by rw [RepD])⟩)
    · cases e
  case h_9 =>
    split at e
    · rename_i c
      cases e
      rw [RepD] at ra rb
      obtain ⟨p, vs, rfl, ha, ra⟩ := ra
      obtain ⟨q, us, rfl, hb, rb⟩ := rb
      refine .inr (.inr (.inl ⟨p, q, vs, us, rfl, rfl, ha, hb, by rw [ra.length, rb.length]; exact of_decide_eq_true c, fun z => ?_, fun z z2 => ?_, fun z z2 c hc => ok.tupD g t (ra.append rb) hc⟩))
      · subst z
        have l := ra.length
        have e2 := List.eq_nil_of_length_eq_zero l.symm
        subst e2
        exact ok.data g t (by rw [RepD]; exact ⟨q, us, rfl, hb, rb⟩)
      · subst z2
        have l := rb.length
        have e2 := List.eq_nil_of_length_eq_zero l.symm
        subst e2
        rw [List.append_nil] at ok
        exact ok.data g t (by rw [RepD]; exact ⟨p, vs, rfl, ha, ra⟩)
    · cases e
  case h_10 =>
    split at e
    · rename_i c
      cases e
      rw [RepD] at ra rb
      obtain ⟨p, vs, rfl, _, ha, ra⟩ := ra
      obtain ⟨q, us, rfl, _, hb, rb⟩ := rb
      exact .inr (.inr (.inr ⟨p, q, vs, us, rfl, rfl, ha, hb, by rw [ra.length, rb.length]; exact of_decide_eq_true c, fun c hc => ok.lstD g t (ra.append rb) hc⟩))
    · cases e
  case h_11 =>
    split at e
    · rename_i c
      cases e
      simp only [RepD] at ra rb
      obtain ⟨p, vs, rfl, _, ha, ra⟩ := ra
      rw [Bool.and_eq_true] at c
      have c1 := inR_ok c.1
      have c2 := of_decide_eq_true c.2
      exact .inr (.inr ⟨p, _, vs, rfl, rb, ha, by omega, by omega, by rw [ra.length]; exact c2, fun c hc => ok.lstD g t (ra.rep _) hc⟩)
    · cases e
  case h_12 => cases e
theorem t_bin {X : Cx} {a b : Expr} {ia ib : E} {bo : Bop} {pos : Pos} (ha : PE X a (T X.K W C ia)) (hb : PE X b (T X.K W C ib)) : PE X (.BinOp a (bopA bo) b pos) (T X.K W C (.bin bo ia ib)) := by
  refine PE.weak (pe_op (op_bin bo) ha hb) fun s H Q ⟨σ, w, R, g, h⟩ => ?_
  rw [evalE] at h
  refine T.ofD g h fun p σ1 v H1 w1 g1 r1 t1 h1 => ?_
  refine T.ofD g1 (OutV.step h1 t1) fun q σ2 u H2 w2 g2 r2 t2 h2 => ?_
  obtain ⟨z, e, ok⟩ := Out.ofOpt h2
  exact bin_end e g2 t2 (RepD.ext (g1.ext t2) _ _ r1) r2 ok

/-! ### truth -/
theorem RepD.tru {x : Dat} {v : V} {k : Bool} (r : RepD K H O x v) (e : truO x = some k) : TruV K v H k := by
  cases x with
  | non => rw [RepD] at r; subst r; cases e; rfl
  | bl b => rw [RepD] at r; subst r; cases e; rfl
  | int i => rw [RepD] at r; subst r; cases e; rfl
  | str y =>
    rw [RepD] at r
    subst r
    have e' : (if y.length ≤ sizeLine then some (y.length != 0) else none) = some k := e
    split at e'
    · rename_i c
      cases e'
      refine ⟨c, ?_⟩
      rw [Bool.eq_iff_iff]
      simp only [bne_iff_ne, ne_eq]
      omega
    · cases e'
  | tup xs =>
    rw [RepD] at r
    obtain ⟨a, vs, rfl, q, rs⟩ := r
    cases e
    refine .inr (.inl ⟨vs, q, ?_⟩)
    have l := rs.length
    cases xs <;> cases vs <;> simp_all
  | lst xs =>
    rw [RepD] at r
    obtain ⟨a, vs, rfl, _, q, rs⟩ := r
    cases e
    refine .inl ⟨vs, .of q, ?_⟩
    have l := rs.length
    cases xs <;> cases vs <;> simp_all
  | scr xs =>
    rw [RepD] at r
    obtain ⟨a, vs, rfl, q, rs⟩ := r
    cases e
    refine .inl ⟨vs, q.sq, ?_⟩
    have l := rs.length
    cases xs <;> cases vs <;> simp_all
  | dic _ _ => cases e
  | set _ => cases e

/-! ### comparisons -/
def copA : Cop → CmpOp
  | .lt => .Lt | .le => .LtE | .gt => .Gt | .ge => .GtE | .eq => .Eq | .ne => .NotEq | .is => .Is | .isnot => .IsNot | .mem => .In | .notmem => .NotIn
section
variable {X : Cx}
def rLtD (K : PySem.W.Frag) (f : PyData → PyData → Bool) : R2 := fun x y H Q => ∃ d e, Dp K H x d ∧ Dp K H y e ∧ PySem.W.alike d e = true ∧ d ≠ .none ∧ d.depth ≤ 60 ∧ Q (.bl (f d e)) H
theorem op_ltDat {k : Nat} (hr : Room k X.A) : OpR X (compareOp .Lt) (rLtD X.K fun d e => PySem.W.dataLt d e) := by
  intro pins s σ H x y v u Q I rx ry h
  obtain ⟨d, e, hd, he, al, nn, dp, q⟩ := h
  obtain ⟨as, r1⟩ := Dp.reads I d x v hd rx
  obtain ⟨bs, r2⟩ := Dp.reads I e y u he ry
  exact PySem.W.lt_data r1 r2 al nn (by have := hr.units; have := Nat.min_le_left d.depth e.depth; omega) ⟨.bl _, H, I, rfl, q⟩
theorem op_leDat {k : Nat} (hr : Room k X.A) : OpR X (compareOp .LtE) (rLtD X.K fun d e => !PySem.W.dataLt e d) := by
  intro pins s σ H x y v u Q I rx ry h
  obtain ⟨d, e, hd, he, al, nn, dp, q⟩ := h
  obtain ⟨as, r1⟩ := Dp.reads I d x v hd rx
  obtain ⟨bs, r2⟩ := Dp.reads I e y u he ry
  exact PySem.W.le_data r1 r2 al nn (by have := hr.units; have := Nat.min_le_left d.depth e.depth; omega) ⟨.bl _, H, I, rfl, q⟩
theorem op_gtDat {k : Nat} (hr : Room k X.A) : OpR X (compareOp .Gt) (rLtD X.K fun d e => PySem.W.dataLt e d) := by
  intro pins s σ H x y v u Q I rx ry h
  obtain ⟨d, e, hd, he, al, nn, dp, q⟩ := h
  obtain ⟨as, r1⟩ := Dp.reads I d x v hd rx
  obtain ⟨bs, r2⟩ := Dp.reads I e y u he ry
  exact PySem.W.gt_data r1 r2 al nn (by have := hr.units; have := Nat.min_le_left d.depth e.depth; omega) ⟨.bl _, H, I, rfl, q⟩
theorem op_geDat {k : Nat} (hr : Room k X.A) : OpR X (compareOp .GtE) (rLtD X.K fun d e => !PySem.W.dataLt d e) := by
  intro pins s σ H x y v u Q I rx ry h
  obtain ⟨d, e, hd, he, al, nn, dp, q⟩ := h
  obtain ⟨as, r1⟩ := Dp.reads I d x v hd rx
  obtain ⟨bs, r2⟩ := Dp.reads I e y u he ry
  exact PySem.W.ge_data r1 r2 al nn (by have := hr.units; have := Nat.min_le_left d.depth e.depth; omega) ⟨.bl _, H, I, rfl, q⟩
/-- in a list or a tuple of data -/
def rMem (K : PySem.W.Frag) (neg : Bool) : R2 := fun x y H Q => ∃ d ds, Dp K H x d ∧ (Dp K H y (.list ds) ∨ Dp K H y (.tuple ds)) ∧ SeqAt.shaped d = true ∧ SeqAt.shaped (.list ds) = true ∧ Q (.bl (if neg then !ds.any fun z => PyData.eqv z d else ds.any fun z => PyData.eqv z d)) H
theorem room_mem {d : PyData} {ds : List PyData} {k : Nat} (sd : SeqAt.shaped d = true) (hr : Room k X.A) : X.A.units + 1 + min (PyData.depthAll ds) d.depth < cLine := by
  have h1 := SeqAt.depth_of_shaped sd
  have h2 := Nat.min_le_right (PyData.depthAll ds) d.depth
  have h3 := hr.un
  omega
theorem op_mem {k : Nat} (hr : Room k X.A) : OpR X (compareOp .In) (rMem X.K false) := by
  intro pins s σ H x y v u Q I rx ry h
  obtain ⟨d, ds, hd, he, sd, se, q⟩ := h
  obtain ⟨as, r1⟩ := Dp.reads I d x v hd rx
  rcases he with he | he
  · obtain ⟨bs, r2⟩ := Dp.reads I (.list ds) y u he ry
    exact SeqAt.in_list_reads r2 r1 (SeqAt.canLay_of_shaped se) (SeqAt.canLay_of_shaped sd) (room_mem sd hr) ⟨.bl _, H, I, rfl, q⟩
  · obtain ⟨bs, r2⟩ := Dp.reads I (.tuple ds) y u he ry
    exact SeqAt.in_tuple_reads r2 r1 (SeqAt.canLay_of_shaped se) (SeqAt.canLay_of_shaped sd) (room_mem sd hr) ⟨.bl _, H, I, rfl, q⟩
theorem op_notmem {k : Nat} (hr : Room k X.A) : OpR X (compareOp .NotIn) (rMem X.K true) := by
  intro pins s σ H x y v u Q I rx ry h
  obtain ⟨d, ds, hd, he, sd, se, q⟩ := h
  obtain ⟨as, r1⟩ := Dp.reads I d x v hd rx
  rcases he with he | he
  · obtain ⟨bs, r2⟩ := Dp.reads I (.list ds) y u he ry
    exact SeqAt.notIn_list_reads r2 r1 (SeqAt.canLay_of_shaped se) (SeqAt.canLay_of_shaped sd) (room_mem sd hr) ⟨.bl _, H, I, rfl, q⟩
  · obtain ⟨bs, r2⟩ := Dp.reads I (.tuple ds) y u he ry
    exact SeqAt.notIn_tuple_reads r2 r1 (SeqAt.canLay_of_shaped se) (SeqAt.canLay_of_shaped sd) (room_mem sd hr) ⟨.bl _, H, I, rfl, q⟩
abbrev rCi (f : Int → Int → Bool) : R2 := rI0 fun i j => .bl (f i j)
def rCmp (K : PySem.W.Frag) : Cop → R2
  | .lt => fun x y H Q => rCi (fun i j => decide (i < j)) x y H Q ∨ rLtD K (fun d e => PySem.W.dataLt d e) x y H Q
  | .le => fun x y H Q => rCi (fun i j => decide (i ≤ j)) x y H Q ∨ rLtD K (fun d e => !PySem.W.dataLt e d) x y H Q
  | .gt => fun x y H Q => rCi (fun i j => decide (j < i)) x y H Q ∨ rLtD K (fun d e => PySem.W.dataLt e d) x y H Q
  | .ge => fun x y H Q => rCi (fun i j => decide (j ≤ i)) x y H Q ∨ rLtD K (fun d e => !PySem.W.dataLt d e) x y H Q
  | .eq => fun x y H Q => rEq x y H Q ∨ rEqD K x y H Q
  | .ne => fun x y H Q => rNe x y H Q ∨ rNeD K x y H Q
  | .is => fun x y H Q => (y = .non ∧ Q (.bl (decide (x = .non))) H) ∨ rIsB x y H Q
  | .isnot => fun x y H Q => (y = .non ∧ Q (.bl (!decide (x = .non))) H) ∨ rNotB x y H Q
  | .mem => rMem K false
  | .notmem => rMem K true
theorem op_cmp {k : Nat} (hr : Room k X.A) (co : Cop) : OpR X (compareOp (copA co)) (rCmp X.K co) := by
  cases co
  · exact OpR.or op_lt (op_ltDat hr)
  · exact OpR.or op_le (op_leDat hr)
  · exact OpR.or op_gt (op_gtDat hr)
  · exact OpR.or op_ge (op_geDat hr)
  · exact OpR.or op_eq (op_eqD hr.units)
  · exact OpR.or op_ne (op_neD hr.units)
  · exact OpR.or op_isN op_isBl
  · exact OpR.or op_notN op_notBl
  · exact op_mem hr
  · exact op_notmem hr
end
theorem Dat.ne_none {x : Dat} (h : noDic x = true) (e : x ≠ .non) : x.py ≠ .none := by
  cases x <;> simp_all [Dat.py, noDic]
theorem RepD.non_iff {x : Dat} {v : V} (r : RepD K H O x v) : decide (v = .non) = decide (x = .non) := by
  cases x <;> (rw [RepD] at r) <;> first
    | (subst r; simp)
    | (obtain ⟨a, vs, rfl, _⟩ := r; simp)
    | (obtain ⟨a, us, o, rfl, _⟩ := r; simp)
    | exact r.elim
theorem ltD_end {a b : Dat} {k : Bool} (h : ltD a b = some k) : (∃ i j, a = .int i ∧ b = .int j ∧ k = decide (i < j)) ∨
    (noDic a = true ∧ noDic b = true ∧ a.py ≠ .none ∧ a.py.depth ≤ 60 ∧ b.py.depth ≤ 60 ∧ PySem.W.alike a.py b.py = true ∧ k = PySem.W.dataLt a.py b.py) := by
  unfold ltD at h
  split at h
  · cases h
    exact .inl ⟨_, _, rfl, rfl, rfl⟩
  · split at h
    · rename_i c
      cases h
      simp only [Bool.and_eq_true, decide_eq_true_eq] at c
      obtain ⟨⟨⟨⟨c1, c2⟩, c3⟩, c4⟩, c5⟩ := c
      exact .inr ⟨c1, c2, Dat.ne_none c1 c3, c4.1, c4.2, c5, rfl⟩
    · cases h
theorem eqD_end {a b : Dat} {k : Bool} (h : eqD a b = some k) : (∃ i j, a = .int i ∧ b = .int j ∧ k = decide (i = j)) ∨
    (noDic a = true ∧ noDic b = true ∧ SeqAt.shaped a.py = true ∧ SeqAt.shaped b.py = true ∧ k = PyData.eqv a.py b.py) := by
  unfold eqD at h
  split at h
  · cases h
    exact .inl ⟨_, _, rfl, rfl, rfl⟩
  · split at h
    · rename_i c
      cases h
      simp only [Bool.and_eq_true] at c
      obtain ⟨⟨⟨c1, c2⟩, c3⟩, c4⟩ := c
      exact .inr ⟨c1, c2, c3, c4, rfl⟩
    · cases h
theorem memD_end {a : Dat} {xs : List Dat} {k : Bool} (h : memD a xs = some k) : noDic a = true ∧ noDics xs = true ∧ SeqAt.shaped a.py = true ∧ SeqAt.shaped (.list (pys xs)) = true ∧ k = xs.any fun z => PyData.eqv z.py a.py := by
  unfold memD at h
  split at h
  · rename_i c
    cases h
    simp only [Bool.and_eq_true] at c
    obtain ⟨⟨⟨c1, c2⟩, c3⟩, c4⟩ := c
    refine ⟨c1, c2, c3, ?_, rfl⟩
    have : eqOk (.lst xs) = true := c4
    unfold eqOk at this
    rw [Dat.py] at this
    exact this
  · cases h
theorem alike_sym {d e : PyData} (h : PySem.W.alike d e = true) : PySem.W.alike e d = true := by rw [PySem.W.alike_comm]; exact h
theorem cmp_end {co : Cop} {a b : Dat} {k : Bool} {x y : V} (e : cmpD co a b = some k) (ra : RepD K H [] a x) (rb : RepD K H [] b y) (q : Q (.bl k) H) : rCmp K co x y H Q := by
  have nn : ∀ {d e : PyData}, PySem.W.alike d e = true → e ≠ .none → d ≠ .none := fun h he z => by subst z; cases ‹PyData› <;> simp_all [PySem.W.alike]
  cases co with
  | eq =>
    rcases eqD_end (show eqD a b = some k from e) with ⟨i, j, rfl, rfl, rfl⟩ | ⟨c1, c2, c3, c4, rfl⟩
    · simp only [RepD] at ra rb
      subst ra rb
      refine .inl ⟨rfl, ?_⟩
      have e : decide (V.int i = V.int j) = decide (i = j) := by simp
      rw [e]
      exact q
    · exact .inr ⟨_, _, ra.dp _ _ c1, rb.dp _ _ c2, c3, c4, q⟩
  | ne =>
    have e' : (eqD a b).map (!·) = some k := e
    cases e2 : eqD a b with
    | none => rw [e2] at e'; cases e'
    | some k' =>
      rw [e2] at e'
      cases e'
      rcases eqD_end e2 with ⟨i, j, rfl, rfl, rfl⟩ | ⟨c1, c2, c3, c4, rfl⟩
      · simp only [RepD] at ra rb
        subst ra rb
        refine .inl ⟨rfl, ?_⟩
        have e : (!decide (V.int i = V.int j)) = (!decide (i = j)) := by simp
        rw [e]
        exact q
      · exact .inr ⟨_, _, ra.dp _ _ c1, rb.dp _ _ c2, c3, c4, q⟩
  | lt =>
    rcases ltD_end (show ltD a b = some k from e) with ⟨i, j, rfl, rfl, rfl⟩ | ⟨c1, c2, c3, c4, c5, c6, rfl⟩
    · simp only [RepD] at ra rb
      exact .inl ⟨i, j, ra, rb, q⟩
    · exact .inr ⟨_, _, ra.dp _ _ c1, rb.dp _ _ c2, c6, c3, c4, q⟩
  | gt =>
    rcases ltD_end (show ltD b a = some k from e) with ⟨i, j, rfl, rfl, rfl⟩ | ⟨c1, c2, c3, c4, c5, c6, rfl⟩
    · simp only [RepD] at ra rb
      exact .inl ⟨j, i, ra, rb, q⟩
    · exact .inr ⟨_, _, ra.dp _ _ c2, rb.dp _ _ c1, alike_sym c6, nn (alike_sym c6) c3, c5, q⟩
  | le =>
    have e' : (ltD b a).map (!·) = some k := e
    cases e2 : ltD b a with
    | none => rw [e2] at e'; cases e'
    | some k' =>
      rw [e2] at e'
      cases e'
      rcases ltD_end e2 with ⟨i, j, rfl, rfl, rfl⟩ | ⟨c1, c2, c3, c4, c5, c6, rfl⟩
      · simp only [RepD] at ra rb
        refine .inl ⟨j, i, ra, rb, ?_⟩
        have e : decide (j ≤ i) = (!decide (i < j)) := by
          rw [Bool.eq_iff_iff]
          simp
        show Q (.bl (decide (j ≤ i))) H
        rw [e]
        exact q
      · exact .inr ⟨_, _, ra.dp _ _ c2, rb.dp _ _ c1, alike_sym c6, nn (alike_sym c6) c3, c5, q⟩
  | ge =>
    have e' : (ltD a b).map (!·) = some k := e
    cases e2 : ltD a b with
    | none => rw [e2] at e'; cases e'
    | some k' =>
      rw [e2] at e'
      cases e'
      rcases ltD_end e2 with ⟨i, j, rfl, rfl, rfl⟩ | ⟨c1, c2, c3, c4, c5, c6, rfl⟩
      · simp only [RepD] at ra rb
        refine .inl ⟨i, j, ra, rb, ?_⟩
        have e : decide (j ≤ i) = (!decide (i < j)) := by
          rw [Bool.eq_iff_iff]
          simp
        show Q (.bl (decide (j ≤ i))) H
        rw [e]
        exact q
      · exact .inr ⟨_, _, ra.dp _ _ c1, rb.dp _ _ c2, c6, c3, c4, q⟩
  | is =>
    unfold cmpD at e
    cases b with
    | non =>
      rw [RepD] at rb
      cases e
      refine .inl ⟨rb, ?_⟩
      rw [ra.non_iff]
      exact q
    | bl b' =>
      cases a with
      | bl a' =>
        rw [RepD] at ra rb
        cases e
        exact .inr ⟨a', b', ra, rb, q⟩
      | _ => cases e
    | _ => cases a <;> cases e
  | isnot =>
    unfold cmpD at e
    cases b with
    | non =>
      rw [RepD] at rb
      cases e
      refine .inl ⟨rb, ?_⟩
      rw [ra.non_iff]
      exact q
    | bl b' =>
      cases a with
      | bl a' =>
        rw [RepD] at ra rb
        cases e
        exact .inr ⟨a', b', ra, rb, q⟩
      | _ => cases e
    | _ => cases a <;> cases e
  | mem =>
    cases b with
    | lst xs =>
      obtain ⟨c1, c2, c3, c4, rfl⟩ := memD_end (show memD a xs = some k from e)
      refine ⟨_, pys xs, ra.dp _ _ c1, .inl ?_, c3, c4, ?_⟩
      · have := rb.dp _ _ (show noDic (.lst xs) = true by rw [noDic]; exact c2)
        rw [Dat.py] at this
        exact this
      · rw [pys_any]
        exact q
    | tup xs =>
      obtain ⟨c1, c2, c3, c4, rfl⟩ := memD_end (show memD a xs = some k from e)
      refine ⟨_, pys xs, ra.dp _ _ c1, .inr ?_, c3, c4, ?_⟩
      · have := rb.dp _ _ (show noDic (.tup xs) = true by rw [noDic]; exact c2)
        rw [Dat.py] at this
        exact this
      · rw [pys_any]
        exact q
    | _ => cases a <;> cases e
  | notmem =>
    cases b with
    | lst xs =>
      have e' : (memD a xs).map (!·) = some k := e
      cases e2 : memD a xs with
      | none => rw [e2] at e'; cases e'
      | some k' =>
        rw [e2] at e'
        cases e'
        obtain ⟨c1, c2, c3, c4, rfl⟩ := memD_end e2
        refine ⟨_, pys xs, ra.dp _ _ c1, .inl ?_, c3, c4, ?_⟩
        · have := rb.dp _ _ (show noDic (.lst xs) = true by rw [noDic]; exact c2)
          rw [Dat.py] at this
          exact this
        · rw [pys_any]
          exact q
    | tup xs =>
      have e' : (memD a xs).map (!·) = some k := e
      cases e2 : memD a xs with
      | none => rw [e2] at e'; cases e'
      | some k' =>
        rw [e2] at e'
        cases e'
        obtain ⟨c1, c2, c3, c4, rfl⟩ := memD_end e2
        refine ⟨_, pys xs, ra.dp _ _ c1, .inr ?_, c3, c4, ?_⟩
        · have := rb.dp _ _ (show noDic (.tup xs) = true by rw [noDic]; exact c2)
          rw [Dat.py] at this
          exact this
        · rw [pys_any]
          exact q
    | _ => cases a <;> cases e
end
end R

/-! A5: expressions. -/
namespace R
open PySem PySem.Spec L2
open PyProof.Rows hiding St
section
variable {K : PySem.W.Frag} {W : WX} {C : CF} {H H1 H2 H' : Hp} {s : St} {w w1 w2 R wv O : List Addr} {σ σ1 σ2 : Sto} {Q : VK}
section
variable {X : Cx} {a b c : Expr} {ia ib ic : E} {pos : Pos}
/-! ### written values, names -/
theorem t_lit {e : Expr} {x : Dat} {v : V} (he : PE X e (tC v)) (r : ∀ H O, RepD X.K H O x v) : PE X e (T X.K W C (.lit x)) := by
  refine PE.weak he fun s H Q ⟨σ, w, R, g, h⟩ => ?_
  rw [evalE] at h
  exact OkV.data h g .refl (r _ _)
theorem Good.slot {r : Nat} {p : PV} (g : Good K H σ s w R) (e : σ[r]? = some (some p)) : ∃ v wr w', s[r]? = some (some v) ∧ RepP K H (w ++ R) p v wr ∧ RepS K H (w ++ R) (σ.set r none) s w' ∧ w.Perm (wr ++ w') := g.rep.take e
/-- a slot's container given up: the slot too -/
theorem Good.give {r : Nat} {p : PV} (g : Good K H σ s w R) (e : σ[r]? = some (some p)) : ∃ v w', s[r]? = some (some v) ∧ Good K H (σ.set r (some (.d p.frz))) s w' R ∧ RepD K H (w' ++ R) p.frz v ∧ ∀ b ∈ w', b ∈ w := by
  obtain ⟨v, wr, w', es, rp, rs, pm⟩ := g.slot e
  have nd : ((wr ++ w') ++ R).Nodup := ((List.Perm.append_right R pm).nodup_iff).mp g.nd
  have nd' : (wr ++ (w' ++ R)).Nodup := by rw [← List.append_assoc]; exact nd
  have sub : ∀ b ∈ w' ++ R, b ∈ w ++ R ∧ b ∉ wr := fun b hb => by
    refine ⟨?_, fun z => (List.nodup_append.mp nd').2.2 b z b hb rfl⟩
    rcases List.mem_append.mp hb with q | q
    · exact List.mem_append_left _ (pm.mem_iff.mpr (List.mem_append_right _ q))
    · exact List.mem_append_right _ q
  have rd : RepD K H (w' ++ R) p.frz v := rp.frz _ _ _ sub
  refine ⟨v, w', es, ⟨?_, (List.nodup_append.mp nd').2.1, fun b hb => g.mu b (sub b hb).1⟩, rd, fun b hb => pm.mem_iff.mpr (List.mem_append_right _ hb)⟩
  have rs' : RepS K H (w' ++ R) (σ.set r none) s w' := rs.ext (Ext.less fun b hb => (sub b hb).1) fun _ _ _ q => q
  have := rs'.put (p := .d p.frz) (wr := []) es (by rw [RepP]; exact ⟨rfl, rd⟩)
  simpa using this
theorem repPs_of : ∀ {xs : List PV} {us : List V}, RepDs K H O (frzs xs) us → RepPs K H O (thawL xs) us []
  | [], us, h => by
    rw [frzs, RepDs] at h
    rw [thawL, List.map_nil, RepPs]
    exact ⟨h, rfl⟩
  | p :: xs, us, h => by
    rw [frzs, RepDs] at h
    obtain ⟨v, t, rfl, h1, h2⟩ := h
    have := repPs_of h2
    rw [thawL, List.map_cons, RepPs]
    exact ⟨v, t, [], [], rfl, rfl, by rw [RepP]; exact ⟨rfl, h1⟩, this⟩
/-- a slot's list kept, its items given up -/
theorem Good.thaw {r : Nat} {xs : List PV} (g : Good K H σ s w R) (e : σ[r]? = some (some (.lst xs))) : ∃ w', Good K H (σ.set r (some (.lst (thawL xs)))) s w' R ∧ ∀ b ∈ w', b ∈ w := by
  obtain ⟨v, wr, w', es, rp, rs, pm⟩ := g.slot e
  rw [RepP] at rp
  obtain ⟨l, us, wi, rfl, rfl, hl, rps⟩ := rp
  have nd : (((l :: wi) ++ w') ++ R).Nodup := ((List.Perm.append_right R pm).nodup_iff).mp g.nd
  have nd1 : l ∉ wi ++ (w' ++ R) ∧ (wi ++ (w' ++ R)).Nodup := by
    have : (l :: (wi ++ (w' ++ R))).Nodup := by
      have e : ((l :: wi) ++ w') ++ R = l :: (wi ++ (w' ++ R)) := by simp
      rwa [e] at nd
    exact List.nodup_cons.mp this
  have sub : ∀ b ∈ (l :: w') ++ R, b ∈ w ++ R ∧ b ∉ wi := fun b hb => by
    have hb' : b = l ∨ b ∈ w' ++ R := by simpa using hb
    rcases hb' with q | q
    · subst q
      exact ⟨List.mem_append_left _ (pm.mem_iff.mpr (by simp)), fun z => nd1.1 (List.mem_append_left _ z)⟩
    · refine ⟨?_, fun z => (List.nodup_append.mp nd1.2).2.2 b z b q rfl⟩
      rcases List.mem_append.mp q with q | q
      · exact List.mem_append_left _ (pm.mem_iff.mpr (by simp [q]))
      · exact List.mem_append_right _ q
  have rds : RepDs K H ((l :: w') ++ R) (frzs xs) us := RepPs.frz _ _ _ rps sub
  have nd2 : ((l :: w') ++ R).Nodup := by
    show (l :: (w' ++ R)).Nodup
    exact List.nodup_cons.mpr ⟨fun z => nd1.1 (List.mem_append_right _ z), (List.nodup_append.mp nd1.2).2.1⟩
  refine ⟨l :: w', ⟨?_, nd2, fun b hb => g.mu b (sub b hb).1⟩, fun b hb => ?_⟩
  · have rs' : RepS K H ((l :: w') ++ R) (σ.set r none) s w' := rs.ext (Ext.less fun b hb => (sub b hb).1) fun _ _ _ q => q
    have := rs'.put (p := .lst (thawL xs)) (wr := [l]) es (by rw [RepP]; exact ⟨l, us, [], rfl, rfl, hl, repPs_of rds⟩)
    simpa using this
  · have hb' : b = l ∨ b ∈ w' := by simpa using hb
    rcases hb' with q | q
    · exact pm.mem_iff.mpr (by simp [q])
    · exact pm.mem_iff.mpr (by simp [q])
theorem t_get {x : Str} {r : Nat} (hN : X.N[r]? = some x) (hv : Vis X.env.scope x) (hd : (x == ("__debug__" : Str)) = false) (hcd : (x == ("__classdict__" : Str)) = false) : PE X (.Name x pos) (T X.K W C (.get r)) := by
  refine PE.weak (pe_var hN hv hd hcd) fun s H Q ⟨σ, w, R, g, h⟩ => ?_
  rw [evalE] at h
  split at h
  · rename_i y e
    obtain ⟨v, wr, w', es, rp, rs, pm⟩ := g.slot e
    rw [RepP] at rp
    exact ⟨v, es, OkV.data h g .refl rp.2⟩
  · rename_i p _ e
    obtain ⟨v, w', es, g', rd, sub⟩ := g.give e
    exact ⟨v, es, OkV.data h g' (Step.refl.less sub) rd⟩
  · exact h.elim
theorem t_mov {x : Str} {r : Nat} (hN : X.N[r]? = some x) (hv : Vis X.env.scope x) (hd : (x == ("__debug__" : Str)) = false) (hcd : (x == ("__classdict__" : Str)) = false) : PE X (.Name x pos) (T X.K W C (.mov r)) := by
  refine PE.weak (pe_var hN hv hd hcd) fun s H Q ⟨σ, w, R, g, h⟩ => ?_
  rw [evalE] at h
  split at h
  · rename_i p e
    obtain ⟨v, wr, w', es, rp, rs, pm⟩ := g.slot e
    have pm' : (w ++ R).Perm (w' ++ (wr ++ R)) := (List.Perm.append_right R (pm.trans List.perm_append_comm)).trans (by rw [List.append_assoc])
    have less : ∀ b ∈ w' ++ (wr ++ R), b ∈ w ++ R := fun b hb => pm'.mem_iff.mpr hb
    refine ⟨v, es, h v H ⟨w', wr, ⟨rs.ext (Ext.less less) fun _ _ _ q => q, pm'.nodup_iff.mp g.nd, fun b hb => g.mu b (less b hb)⟩, RepP.ext (Ext.less less) _ _ _ (fun _ _ _ q => q) rp, Step.refl.less fun b hb => ?_⟩⟩
    exact pm.mem_iff.mpr (List.perm_append_comm.mem_iff.mp hb)
  · exact h.elim
theorem FinW.slot {r : Nat} {p : PV} {x : Dat} (g : Good K H σ s w R) (e : σ[r]? = some (some p)) (ex : vwP p = some x) : ∃ v, s[r]? = some (some v) ∧ FinW K H s w R x σ v H := by
  obtain ⟨v, wr, w', es, rp, rs, pm⟩ := g.slot e
  refine ⟨v, es, ?_⟩
  cases p with
  | d y =>
    cases ex
    rw [RepP] at rp
    exact FinW.of g rp.2 .refl
  | lst xs =>
    have ex' : (allD xs).map Dat.lst = some x := ex
    cases e2 : allD xs with
    | none => rw [e2] at ex'; cases ex'
    | some ds =>
      rw [e2] at ex'
      cases ex'
      have e3 := allD_some e2
      subst e3
      rw [RepP] at rp
      obtain ⟨ad, vs, wr', ev, ew, ha, rps⟩ := rp
      obtain ⟨_, rds⟩ := rps.toD
      have rn : RepDs K H [] ds vs := RepDs.ext (Ext.less fun b hb => by cases hb) _ _ rds
      refine ⟨w, g, ?_, .refl, fun xs e => ?_, fun n => absurd rfl (n ds)⟩
      · rw [RepD]
        exact ⟨ad, vs, ev, by simp, ha, rn⟩
      · cases e
        exact ⟨ad, vs, ev, ha, rds⟩
  | tup _ => cases ex
  | dic _ _ => cases ex
  | set _ => cases ex
theorem thawL_eq : ∀ xs : List PV, thawL xs = (frzs xs).map .d
  | [] => rfl
  | p :: ps => by
    have := thawL_eq ps
    unfold thawL at this ⊢
    simp [this]
theorem t_vw {x : Str} {r : Nat} (hN : X.N[r]? = some x) (hv : Vis X.env.scope x) (hd : (x == ("__debug__" : Str)) = false) (hcd : (x == ("__classdict__" : Str)) = false) : PE X (.Name x pos) (TV X.K W C (.vw r)) := by
  refine PE.weak (pe_var hN hv hd hcd) fun s H Q ⟨σ, w, R, g, h⟩ => ?_
  rw [evalE] at h
  split at h
  · rename_i p e
    split at h
    · rename_i y ey
      obtain ⟨v, es, f⟩ := FinW.slot g e ey
      refine ⟨v, es, h v H ?_⟩
      rw [frz_d]
      exact f
    · split at h
      · rename_i xs _
        obtain ⟨w2, g2, sub⟩ := g.thaw e
        have hlt : r < σ.length := (List.getElem?_eq_some_iff.mp e).1
        have e2 : (σ.set r (some (.lst (thawL xs))))[r]? = some (some (.lst (thawL xs))) := by rw [List.getElem?_set_self hlt]
        have ey : vwP (.lst (thawL xs)) = some (.lst (frzs xs)) := by
          rw [thawL_eq, vwP, allD_map]
          rfl
        obtain ⟨v, es, w', g', r', t', k1, k2⟩ := FinW.slot g2 e2 ey
        refine ⟨v, es, h v H ?_⟩
        rw [frz_d]
        exact ⟨w', g', r', (Step.refl.less sub).trans t', k1, k2⟩
      · exact h.elim
  · exact h.elim
theorem tv_of {e : Expr} {i : E} (he : PE X e (T X.K W C i)) : PE X e (TV X.K W C i) := PE.weak he fun _ _ _ h => T.toV h

/-! ### -a, not a, a and b, a or b, a if c else b -/
theorem t_neg (ha : PE X a (T X.K W C ia)) : PE X (.UnaryOp .USub a pos) (T X.K W C (.neg ia)) := by
  refine PE.weak (pe_un un_neg ha) fun s H Q ⟨σ, w, R, g, h⟩ => ?_
  rw [evalE] at h
  refine T.ofD g h fun p σ1 v H1 w1 g1 r1 t1 h1 => ?_
  cases e : p.frz with
  | int i =>
    rw [e] at h1 r1
    rw [RepD] at r1
    exact ⟨i, r1, OkV.data h1 g1 t1 (by rw [RepD])⟩
  | _ => rw [e] at h1; exact h1.elim
theorem t_not (ha : PE X a (T X.K W C ia)) : PE X (.UnaryOp .Not a pos) (T X.K W C (.not ia)) := by
  refine PE.weak (pe_notT ha) fun s H Q ⟨σ, w, R, g, h⟩ => ?_
  rw [evalE] at h
  refine T.ofD g h fun p σ1 v H1 w1 g1 r1 t1 h1 => ?_
  obtain ⟨k, e, h2⟩ := Out.ofBind h1
  exact ⟨k, r1.tru e, OkV.data h2 g1 t1 (by rw [RepD])⟩
theorem t_one {op : BoolOp} (ha : PE X a (T X.K W C ia)) : PE X (.BoolOp op [a] pos) (T X.K W C ia) := pe_one ha
theorem t_and {rest : List Expr} (ha : PE X a (T X.K W C ia)) (hb : PE X (.BoolOp .And (b :: rest) pos) (T X.K W C ib)) : PE X (.BoolOp .And (a :: b :: rest) pos) (T X.K W C (.and ia ib)) := by
  refine PE.weak (pe_andT ha hb) fun s H Q ⟨σ, w, R, g, h⟩ => ?_
  rw [evalE] at h
  refine T.ofD g h fun p σ1 v H1 w1 g1 r1 t1 h1 => ?_
  obtain ⟨k, e, h2⟩ := Out.ofBind h1
  refine ⟨k, r1.tru e, ?_⟩
  cases k with
  | true => exact ⟨σ1, w1, R, g1, OutV.step h2 t1⟩
  | false => exact OkV.data h2 g1 t1 r1
theorem t_or {rest : List Expr} (ha : PE X a (T X.K W C ia)) (hb : PE X (.BoolOp .Or (b :: rest) pos) (T X.K W C ib)) : PE X (.BoolOp .Or (a :: b :: rest) pos) (T X.K W C (.or ia ib)) := by
  refine PE.weak (pe_orT ha hb) fun s H Q ⟨σ, w, R, g, h⟩ => ?_
  rw [evalE] at h
  refine T.ofD g h fun p σ1 v H1 w1 g1 r1 t1 h1 => ?_
  obtain ⟨k, e, h2⟩ := Out.ofBind h1
  refine ⟨k, r1.tru e, ?_⟩
  cases k with
  | false => exact ⟨σ1, w1, R, g1, OutV.step h2 t1⟩
  | true => exact OkV.data h2 g1 t1 r1
theorem TT'.of {α : Type} {e : E} {f : Bool → Sto → Res α} {ok : α → Sto → Prop} {Qb : Bool → Hp → Prop} (g : Good K H σ s w R) (h : Out K W H s w R ok (((evalE C e σ).bind fun p σ1 => optR (truO p.frz) σ1).bind f))
    (k : ∀ b σ1 H1 w1, Good K H1 σ1 s w1 R → Step w H w1 H1 → Out K W H s w R ok (f b σ1) → Qb b H1) : TT' K W C e s H Qb := by
  refine ⟨σ, w, R, g, ?_⟩
  cases e1 : (evalE C e σ).bind fun p σ1 => optR (truO p.frz) σ1 with
  | ok b σ1 =>
    rw [e1] at h
    intro H1 w1 g1 t1
    exact k b σ1 H1 w1 g1 t1 h
  | exc c fs σ1 =>
    rw [e1] at h
    exact h
  | bad =>
    rw [e1] at h
    exact h
theorem bind_assoc {α β γ : Type} (r : Res α) (f : α → Sto → Res β) (g : β → Sto → Res γ) : (r.bind f).bind g = r.bind fun a σ => (f a σ).bind g := by
  cases r <;> rfl
theorem t_ite (hc : PT X c (TT' X.K W C ic)) (ha : PE X a (T X.K W C ia)) (hb : PE X b (T X.K W C ib)) : PE X (.IfExp c a b pos) (T X.K W C (.ite ic ia ib)) := by
  refine PE.weak (pe_ifExp hc ha hb) fun s H Q ⟨σ, w, R, g, h⟩ => ?_
  rw [evalE] at h
  rw [show ((evalE C ic σ).bind fun p σ1 => (optR (truO p.frz) σ1).bind fun k σ2 => if k then evalE C ia σ2 else evalE C ib σ2) = (((evalE C ic σ).bind fun p σ1 => optR (truO p.frz) σ1).bind fun k σ2 => if k then evalE C ia σ2 else evalE C ib σ2) from (bind_assoc _ _ _).symm] at h
  refine TT'.of g h fun k σ1 H1 w1 g1 t1 h1 => ?_
  cases k with
  | true => exact ⟨σ1, w1, R, g1, OutV.step h1 t1⟩
  | false => exact ⟨σ1, w1, R, g1, OutV.step h1 t1⟩

/-! ### tests -/
/-- what isTrue does of an expression that has no form of its own -/
def plainT : Expr → Bool
  | .UnaryOp .Not _ _ => false
  | .BoolOp _ _ _ => false
  | .IfExp _ _ _ _ => false
  | .Compare _ _ _ _ => false
  | _ => true
theorem plain_true {e : Expr} (h : plainT e = true) (env : Env) (whole : Sem Value) : isTrue e env whole = (do let v ← whole; standAt e.pos; holding [v] (truthy v)) := by
  cases e <;> first
    | rfl
    | cases h
    | (rename_i op x p
       cases op <;> first
         | rfl
         | cases h)
theorem tt_plain {e : Expr} {i : E} (hp : plainT e = true) (he : PE X e (TV X.K W C i)) : PT X e (TT' X.K W C i) := by
  refine PT.weak (pt_truth he (plain_true hp X.env)) fun s H Qb ⟨σ, w, R, g, h⟩ => ?_
  refine TV.ofW g h fun p σ1 v H1 f h1 => ?_
  obtain ⟨k, e, ok⟩ := Out.ofOpt h1
  obtain ⟨w1, g1, r1, t1, _⟩ := f
  exact ⟨k, r1.tru e, ok H1 w1 g1 t1⟩
theorem tt_not (ha : PT X a (TT' X.K W C ia)) : PT X (.UnaryOp .Not a pos) (TT' X.K W C (.not ia)) := by
  refine PT.weak (pt_not ha) fun s H Qb ⟨σ, w, R, g, h⟩ => ?_
  rw [evalE, bind_assoc] at h
  have e : ((evalE C ia σ).bind fun p σ1 => ((optR (truO p.frz) σ1).bind fun b σ2 => (.ok (.d (.bl (!b))) σ2 : Res PV)).bind fun p σ1 => optR (truO p.frz) σ1) = (((evalE C ia σ).bind fun p σ1 => optR (truO p.frz) σ1).bind fun b σ1 => .ok (!b) σ1) := by
    rw [bind_assoc]
    congr 1
    funext p σ1
    cases truO p.frz <;> simp [truO]
  rw [e] at h
  refine TT'.of g h fun k σ1 H1 w1 g1 t1 h1 => ?_
  exact h1 H1 w1 g1 t1
theorem tt_and {rest : List Expr} (ha : PT X a (TT' X.K W C ia)) (hb : PW X (.BoolOp .And (b :: rest) pos) (TT' X.K W C ib)) : PW X (.BoolOp .And (a :: b :: rest) pos) (TT' X.K W C (.and ia ib)) := by
  refine PW.weak (pw_and ha hb) fun s H Qb ⟨σ, w, R, g, h⟩ => ?_
  rw [evalE, bind_assoc] at h
  have e : ((evalE C ia σ).bind fun p σ1 => ((optR (truO p.frz) σ1).bind fun k σ2 => if k then evalE C ib σ2 else .ok (.d p.frz) σ2).bind fun p σ1 => optR (truO p.frz) σ1) = (((evalE C ia σ).bind fun p σ1 => optR (truO p.frz) σ1).bind fun k σ2 => if k then ((evalE C ib σ2).bind fun p σ1 => optR (truO p.frz) σ1) else .ok false σ2) := by
    rw [bind_assoc]
    congr 1
    funext p σ1
    cases e : truO p.frz with
    | none => rfl
    | some k => cases k <;> simp [e]
  rw [e] at h
  refine TT'.of g h fun k σ1 H1 w1 g1 t1 h1 => ?_
  cases k with
  | true =>
    rw [if_pos rfl]
    exact ⟨σ1, w1, R, g1, h1.map t1 fun b σ' q H' w' g' t' => q H' w' g' (t1.trans t')⟩
  | false => exact h1 H1 w1 g1 t1
theorem tt_or {rest : List Expr} (ha : PT X a (TT' X.K W C ia)) (hb : PW X (.BoolOp .Or (b :: rest) pos) (TT' X.K W C ib)) : PW X (.BoolOp .Or (a :: b :: rest) pos) (TT' X.K W C (.or ia ib)) := by
  refine PW.weak (pw_or ha hb) fun s H Qb ⟨σ, w, R, g, h⟩ => ?_
  rw [evalE, bind_assoc] at h
  have e : ((evalE C ia σ).bind fun p σ1 => ((optR (truO p.frz) σ1).bind fun k σ2 => if k then .ok (.d p.frz) σ2 else evalE C ib σ2).bind fun p σ1 => optR (truO p.frz) σ1) = (((evalE C ia σ).bind fun p σ1 => optR (truO p.frz) σ1).bind fun k σ2 => if k then .ok true σ2 else ((evalE C ib σ2).bind fun p σ1 => optR (truO p.frz) σ1)) := by
    rw [bind_assoc]
    congr 1
    funext p σ1
    cases e : truO p.frz with
    | none => rfl
    | some k => cases k <;> simp [e]
  rw [e] at h
  refine TT'.of g h fun k σ1 H1 w1 g1 t1 h1 => ?_
  cases k with
  | false =>
    show TT' _ _ _ _ _ _ _
    exact ⟨σ1, w1, R, g1, h1.map t1 fun b σ' q H' w' g' t' => q H' w' g' (t1.trans t')⟩
  | true => exact h1 H1 w1 g1 t1

/-! ### comparisons -/
theorem nobeh {co : Cop} {b : Expr} (h : ∀ es k p, b ≠ .Set es k p) : behindInMarks (copA co) b = false := by
  unfold behindInMarks
  split
  · rename_i es k p
    exact absurd rfl (h es k p)
  · rfl
theorem t_cmp {n : Nat} (hr : Room n X.A) {co : Cop} (ha : PE X a (T X.K W C ia)) (hb : PE X b (TV X.K W C ib)) (hs : ∀ es k p, b ≠ .Set es k p) : PE X (.Compare a [copA co] [b] pos) (T X.K W C (.cmp co ia ib)) := by
  refine PE.weak (pe_cmpR (op_cmp hr co) ha hb (nobeh hs)) fun s H Q ⟨σ, w, R, g, h⟩ => ?_
  rw [evalE] at h
  refine T.ofD g h fun p σ1 v H1 w1 g1 r1 t1 h1 => ?_
  refine TV.ofW g1 (OutV.step h1 t1) fun q σ2 u H2 f h2 => ?_
  obtain ⟨w2, g2, r2, t2, _⟩ := f
  obtain ⟨z, e, ok⟩ := Out.ofOpt h2
  cases e2 : cmpD co p.frz q.frz with
  | none => rw [e2] at e; cases e
  | some k =>
    rw [e2] at e
    cases e
    exact cmp_end e2 (RepD.nil (RepD.ext (g1.ext t2) _ _ r1)) r2 (OkV.data ok g2 t2 (by rw [RepD]))
theorem tt_cmp {n : Nat} (hr : Room n X.A) {co : Cop} (ha : PE X a (T X.K W C ia)) (hb : PE X b (TV X.K W C ib)) (hs : ∀ es k p, b ≠ .Set es k p) : PT X (.Compare a [copA co] [b] pos) (TT' X.K W C (.cmp co ia ib)) := by
  refine PT.weak (pt_cmpR (op_cmp hr co) ha hb (nobeh hs)) fun s H Qb ⟨σ, w, R, g, h⟩ => ?_
  rw [evalE, bind_assoc] at h
  refine T.ofD g h fun p σ1 v H1 w1 g1 r1 t1 h1 => ?_
  rw [bind_assoc] at h1
  have h1' := h1.map (ok' := OkT X.K H1 s w1 R Qb) t1 fun b σ' q H' w' g' t' => q H' w' g' (t1.trans t')
  refine TV.ofW g1 h1' fun q σ2 u H2 f h2 => ?_
  obtain ⟨w2, g2, r2, t2, _⟩ := f
  cases e2 : cmpD co p.frz q.frz with
  | none => rw [e2] at h2; exact h2.elim
  | some k =>
    rw [e2] at h2
    exact cmp_end e2 (RepD.nil (RepD.ext (g1.ext t2) _ _ r1)) r2 ⟨k, rfl, h2 H2 w2 g2 t2⟩
theorem t_chain {n : Nat} (hr : Room n X.A) {co co' : Cop} (ha : PE X a (T X.K W C ia)) (hb : PE X b (T X.K W C ib)) (hc : PE X c (TV X.K W C ic)) (hs' : ∀ es k p, c ≠ .Set es k p) :
    PE X (.Compare a [copA co, copA co'] [b, c] pos) (T X.K W C (.chain co co' ia ib ic)) := by
  refine PE.weak (pe_chain (op_cmp hr co) (op_cmp hr co') ha hb hc (nobeh hs')) fun s H Q ⟨σ, w, R, g, h⟩ => ?_
  rw [evalE] at h
  refine T.ofD g h fun p σ1 v H1 w1 g1 r1 t1 h1 => ?_
  refine T.ofD g1 (OutV.step h1 t1) fun q σ2 u H2 w2 g2 r2 t2 h2 => ?_
  have r1' := RepD.ext (g1.ext t2) _ _ r1
  cases e2 : cmpD co p.frz q.frz with
  | none => rw [e2] at h2; exact h2.elim
  | some k =>
    rw [e2] at h2
    refine cmp_end e2 r1'.nil r2.nil ⟨k, rfl, ?_⟩
    cases k with
    | false => exact OkV.data h2 g2 t2 (by rw [RepD])
    | true =>
      rw [if_pos rfl]
      refine TV.ofW g2 (OutV.step h2 t2) fun z σ3 x H3 f h3 => ?_
      obtain ⟨w3, g3, r3, t3, _⟩ := f
      obtain ⟨y, e, ok⟩ := Out.ofOpt h3
      cases e3 : cmpD co' q.frz z.frz with
      | none => rw [e3] at e; cases e
      | some k =>
        rw [e3] at e
        cases e
        exact cmp_end e3 (RepD.nil (RepD.ext (g2.ext t3) _ _ r2)) r3 (OkV.data ok g3 t3 (by rw [RepD]))
theorem tt_chain {n : Nat} (hr : Room n X.A) {co co' : Cop} (ha : PE X a (T X.K W C ia)) (hb : PE X b (T X.K W C ib)) (hc : PE X c (TV X.K W C ic)) (hs' : ∀ es k p, c ≠ .Set es k p) :
    PT X (.Compare a [copA co, copA co'] [b, c] pos) (TT' X.K W C (.chain co co' ia ib ic)) := by
  refine PT.weak (pt_chain (op_cmp hr co) (op_cmp hr co') ha hb hc (nobeh hs')) fun s H Qb ⟨σ, w, R, g, h⟩ => ?_
  rw [evalE, bind_assoc] at h
  refine T.ofD g h fun p σ1 v H1 w1 g1 r1 t1 h1 => ?_
  rw [bind_assoc] at h1
  have h1' := h1.map (ok' := OkT X.K H1 s w1 R Qb) t1 fun b σ' q H' w' g' t' => q H' w' g' (t1.trans t')
  refine T.ofD g1 h1' fun q σ2 u H2 w2 g2 r2 t2 h2 => ?_
  have r1' := RepD.ext (g1.ext t2) _ _ r1
  cases e2 : cmpD co p.frz q.frz with
  | none => rw [e2] at h2; exact h2.elim
  | some k =>
    rw [e2] at h2
    refine cmp_end e2 r1'.nil r2.nil ⟨k, rfl, ?_⟩
    cases k with
    | false => exact ⟨false, rfl, h2 H2 w2 g2 t2⟩
    | true =>
      rw [if_pos rfl]
      simp only [bind_assoc] at h2
      have h2' := h2.map (ok' := OkT X.K H2 s w2 R Qb) t2 fun b σ' q H' w' g' t' => q H' w' g' (t2.trans t')
      refine TV.ofW g2 h2' fun z σ3 x H3 f h3 => ?_
      obtain ⟨w3, g3, r3, t3, _⟩ := f
      cases e3 : cmpD co' q.frz z.frz with
      | none => rw [e3] at h3; exact h3.elim
      | some k =>
        rw [e3] at h3
        exact cmp_end e3 (RepD.nil (RepD.ext (g2.ext t3) _ _ r2)) r3 ⟨k, rfl, h3 H3 w3 g3 t3⟩

/-! ### subscripts -/
theorem atI_rep {xs : List Dat} {vs : List V} {i : Int} {x : Dat} (r : RepDs K H O xs vs) (e : L2.atI xs i = some x) : ∃ v, L2.atI vs i = some v ∧ RepD K H O x v := by
  unfold L2.atI at e ⊢
  rw [r.length]
  cases e2 : L2.ixN xs.length i with
  | none => rw [e2] at e; cases e
  | some j =>
    rw [e2] at e
    exact r.get e
theorem idx_end {x y : V} {d k z : Dat} (ra : RepD K H O d x) (rk : RepD K H [] k y) (e : idxD d k = some z) (q : ∀ v, RepD K H O z v → Q v H) : rIx K x y H Q := by
  unfold idxD at e
  split at e
  · simp only [RepD] at ra rk
    obtain ⟨a, vs, rfl, ha, rs⟩ := ra
    obtain ⟨v, e2, rv⟩ := atI_rep rs e
    exact .inr (.inl ⟨a, vs, _, v, rfl, rk, ha, e2, q v rv⟩)
  · simp only [RepD] at ra rk
    obtain ⟨a, vs, rfl, _, ha, rs⟩ := ra
    obtain ⟨v, e2, rv⟩ := atI_rep rs e
    exact .inl ⟨a, vs, _, v, rfl, rk, .of ha, e2, q v rv⟩
  · simp only [RepD] at ra rk
    obtain ⟨a, vs, rfl, ha, rs⟩ := ra
    obtain ⟨v, e2, rv⟩ := atI_rep rs e
    exact .inl ⟨a, vs, _, v, rfl, rk, ha.sq, e2, q v rv⟩
  · split at e
    · rename_i i c
      simp only [RepD] at ra rk
      subst ra rk
      cases e2 : L2.atI (_ : List Nat) i with
      | none => rw [e2] at e; cases e
      | some ch =>
        rw [e2] at e
        cases e
        exact .inr (.inr ⟨_, _, _, rfl, rfl, of_decide_eq_true c, e2, q _ (by rw [RepD])⟩)
    · cases e
  · cases e
/-- a slice in brackets -/
def isSl : Expr → Bool
  | .Slice _ _ _ _ => true
  | _ => false
theorem plainIx {b : Expr} (h : isSl b = false) : PlainIx b := fun o i => by
  unfold subscripted
  split
  · cases h
  · rename_i q
    cases q
  · rfl
theorem t_idx (ha : PE X a (T X.K W C ia)) (hb : PE X b (T X.K W C ib)) (hs : isSl b = false) : PE X (.Subscript a b pos) (T X.K W C (.idx ia ib)) := by
  refine PE.weak (pe_ix ix_seq ha hb (plainIx hs)) fun s H Q ⟨σ, w, R, g, h⟩ => ?_
  rw [evalE] at h
  refine T.ofD g h fun p σ1 v H1 w1 g1 r1 t1 h1 => ?_
  refine T.ofD g1 (OutV.step h1 t1) fun q σ2 u H2 w2 g2 r2 t2 h2 => ?_
  obtain ⟨z, e, ok⟩ := Out.ofOpt h2
  cases e2 : idxD p.frz q.frz with
  | none => rw [e2] at e; cases e
  | some y =>
    rw [e2] at e
    cases e
    exact idx_end (RepD.ext (g1.ext t2) _ _ r1) r2.nil e2 fun v rv => OkV.data ok g2 t2 rv
theorem atI_repP {xs : List PV} {vs : List V} {i : Int} {x : Dat} {wr : List Addr} (r : RepPs K H O xs vs wr) (e : ((L2.atI xs i).bind fun | .d x => some x | _ => none) = some x) : ∃ v, L2.atI vs i = some v ∧ RepD K H O x v := by
  have get : ∀ (xs : List PV) (vs : List V) (wr : List Addr) (j : Nat), RepPs K H O xs vs wr → xs[j]? = some (.d x) → ∃ v, vs[j]? = some v ∧ RepD K H O x v := by
    intro xs
    induction xs with
    | nil => intro _ _ _ _ h; simp at h
    | cons p ps ih =>
      intro vs wr j h e
      rw [RepPs] at h
      obtain ⟨v, t, w1, w2, rfl, _, h1, h2⟩ := h
      cases j with
      | zero =>
        simp at e
        subst e
        rw [RepP] at h1
        exact ⟨v, rfl, h1.2⟩
      | succ j =>
        obtain ⟨v', e', q⟩ := ih t w2 j h2 (by simpa using e)
        exact ⟨v', by simpa using e', q⟩
  unfold L2.atI at e ⊢
  rw [r.length]
  cases e2 : L2.ixN xs.length i with
  | none => rw [e2] at e; cases e
  | some j =>
    rw [e2] at e
    have e' : (xs[j]?.bind fun | .d x => some x | _ => none) = some x := e
    cases e3 : xs[j]? with
    | none => rw [e3] at e'; cases e'
    | some p =>
      rw [e3] at e'
      cases p with
      | d y =>
        cases e'
        exact get _ _ _ j r e3
      | _ => cases e'
theorem idxP_end {x y : V} {p : PV} {wr : List Addr} {k z : Dat} (ra : RepP K H O p x wr) (rk : RepD K H [] k y) (e : idxP p k = some z) (q : ∀ v, RepD K H O z v → Q v H) : rIx K x y H Q := by
  unfold idxP at e
  split at e
  · rw [RepP] at ra
    exact idx_end ra.2 rk e q
  · rw [RepP] at ra
    rw [RepD] at rk
    obtain ⟨a, vs, w', rfl, _, ha, rs⟩ := ra
    obtain ⟨v, e2, rv⟩ := atI_repP rs e
    exact .inl ⟨a, vs, _, v, rfl, rk, .of ha, e2, q v rv⟩
  · rw [RepP] at ra
    rw [RepD] at rk
    obtain ⟨a, vs, rfl, ha, rs⟩ := ra
    obtain ⟨v, e2, rv⟩ := atI_repP rs e
    exact .inr (.inl ⟨a, vs, _, v, rfl, rk, ha, e2, q v rv⟩)
  · cases e
theorem t_idxv {x : Str} {r : Nat} {p2 : Pos} (hN : X.N[r]? = some x) (hv : Vis X.env.scope x) (hd : (x == ("__debug__" : Str)) = false) (hcd : (x == ("__classdict__" : Str)) = false) (hb : PE X b (T X.K W C ib)) (hs : isSl b = false) :
    PE X (.Subscript (.Name x p2) b pos) (T X.K W C (.idxv r ib)) := by
  refine PE.weak (pe_ix ix_seq (pe_var hN hv hd hcd) hb (plainIx hs)) fun s H Q ⟨σ, w, R, g, h⟩ => ?_
  rw [evalE] at h
  split at h
  · rename_i p0 e0
    obtain ⟨v0, _, _, es, _⟩ := g.slot e0
    refine ⟨v0, es, ?_⟩
    refine T.ofD g h fun q σ1 u H1 w1 g1 r1 t1 h1 => ?_
    split at h1
    · rename_i p e
      split at h1
      · rename_i y ey
        obtain ⟨v, wr, _, es', rp, _⟩ := g1.slot e
        rw [es] at es'
        cases es'
        exact idxP_end rp r1.nil ey fun v rv => OkV.data h1 g1 t1 rv
      · split at h1
        · rename_i xs _
          split at h1
          · rename_i y ey
            obtain ⟨w2, g2, sub⟩ := g1.thaw e
            have hlt : r < σ1.length := (List.getElem?_eq_some_iff.mp e).1
            have e2 : (σ1.set r (some (.lst (thawL xs))))[r]? = some (some (.lst (thawL xs))) := by rw [List.getElem?_set_self hlt]
            obtain ⟨v, wr, _, es', rp, _⟩ := g2.slot e2
            rw [es] at es'
            cases es'
            exact idxP_end rp r1.nil ey fun v rv => OkV.data h1 g2 (t1.less sub) rv
          · exact h1.elim
        · exact h1.elim
    · exact h1.elim
  · exact h.elim
end
end
end R

/-! E4: xs[::-1] of lists and tuples. -/
namespace HT
open PySem PySem.Spec PyProof.Rows
section
variable {prog : Program} {w : World} {A : Around} {E : Value → Shared → Prop} {s : Shared}
theorem sliceApplied_rev {sl : Addr} {vl vu vs : Value} {n : Nat} {Q : Int × Int × Nat → Shared → Prop} (hs : s.heap.IsSliceOf sl vl vu vs) (pl : IsPart vl none) (pu : IsPart vu none) (ps : IsPart vs (some (-1)))
    (h : Q ((n : Int) - 1, -1, n) s) : wpAny (model prog w) A (Builtin.Slice.sliceApplied (.ref sl) (pure (n : Int))) Q E s := by
  obtain ⟨os, hos, hcs, hds⟩ := id hs
  unfold Builtin.Slice.sliceApplied Builtin.Slice.sliceFields
  refine wpAny_bind (wpAny_bind (wpAny_field hos hds (x := vl) rfl (wpAny_bind (wpAny_field hos hds (x := vu) rfl (wpAny_bind (wpAny_field hos hds (x := vs) rfl (wpAny_pure ?_)))))))
  refine wpAny_bind (slicePart_ ps ?_)
  show wpAny _ _ (if ((-1 : Int) == 0) = true then _ else _) _ _ s
  rw [if_neg (by decide)]
  refine wpAny_bind (slicePart_ pl (wpAny_bind (slicePart_ pu (wpAny_bind (wpAny_pure ?_)))))
  show wpAny _ _ (pure ((n : Int) - 1, (-1 : Int), Builtin.Slice.slicePlaces ((n : Int) - 1) (-1) (-1))) _ _ s
  have e : Builtin.Slice.slicePlaces ((n : Int) - 1) (-1) (-1) = n := by
    unfold Builtin.Slice.slicePlaces
    have h1 : ¬ ((-1 : Int) > 0) := by decide
    rw [if_neg h1, show (- -1 : Int) = 1 by decide, Int.ediv_one]
    by_cases h : (n : Int) - 1 > -1
    · rw [if_pos h]; omega
    · rw [if_neg h]; omega
  rw [e]
  exact wpAny_pure h
theorem pick_rev (xs : Array Value) : ((List.range xs.size).filterMap fun (k : Nat) => xs[((xs.size : Int) - 1 + (k : Int) * -1).toNat]?).toArray = xs.toList.reverse.toArray := by
  have e : (fun (k : Nat) => xs[((xs.size : Int) - 1 + (k : Int) * -1).toNat]?) = (fun j => xs[j]?) ∘ fun (k : Nat) => xs.size - 1 - k := by
    funext k
    have e1 : ((xs.size : Int) - 1 + (k : Int) * -1).toNat = xs.size - 1 - k := by omega
    rw [e1]
    rfl
  rw [e, ← List.filterMap_map, ← PySem.W.krv_sliceRange]
  have := PySem.W.krv_pick xs
  unfold slicePick at this
  rw [PySem.W.krv_bounds] at this
  exact this
theorem getItem_tuple_rev {t sl : Addr} {items : Array Value} {vl vu vs : Value} {Q : Value → Shared → Prop} (ht : IsTup s.heap t items) (hs : s.heap.IsSliceOf sl vl vu vs) (pl : IsPart vl none) (pu : IsPart vu none) (ps : IsPart vs (some (-1)))
    (h : Q (.ref s.heap.objs.size) { s with heap := s.heap.push { cls := .type "tuple", data := .seq items.toList.reverse.toArray } })
    (hsz : items.size ≤ sizeLine) : wpAny (model prog w) A (getItem (.ref t) (.ref sl)) Q E s := by
  have htake : sizeOk (.seq items.toList.reverse.toArray) := by
    show items.toList.reverse.toArray.size ≤ sizeLine
    rw [List.size_toArray, List.length_reverse, Array.length_toList]
    omega
  obtain ⟨os, hos, hcs, hds⟩ := id hs
  have hTs : s.TypeIs (.ref sl) "slice" := ⟨os, hos, hcs⟩
  unfold getItem
  try with_reducible refine wpAny_holding ?_
  first | refine wpAny_bind (wpAny_pure ?_) | skip
  refine wpAny_bind (wpAny_sequenceKey ht.typeIs (by decide) ?_)
  refine wpAny_bind (wpAny_callSpecial?_slot (name := Str.ofString "__getitem__") ht.typeIs PyProof.Rows.slot_tuple_getitem
    (wpAny_call_entry PyProof.Rows.slot_tuple_getitem ht.typeIs entry_tuple_getitem ?_ (args_tuple_getitem _ _)))
  show wpAny _ _ (Builtin.Tuple.tupleItemsOf (.ref t) >>= _) _ _ s
  refine wpAny_bind (tupleItemsOf_ ht ?_)
  refine wpAny_bind (wpAny_typeOf hTs ?_)
  rw [if_pos (by decide)]
  refine wpAny_bind (sliceApplied_rev hs pl pu ps ?_)
  have hno : ¬ ((((items.size : Int) - 1) == 0 && (-1 : Int) == 1 && items.size == items.size) = true) := by
    intro q
    rw [Bool.and_eq_true, Bool.and_eq_true] at q
    exact absurd q.1.2 (by decide)
  show wpAny _ _ (if (((items.size : Int) - 1) == 0 && (-1 : Int) == 1 && items.size == items.size) = true then _ else _) _ _ s
  rw [if_neg hno, pick_rev]
  first
    | exact wpAny_bind (m := Builtin.Tuple.tupleExact _) (wpAny_newObj_type (wpAny_pure ⟨_, rfl, wpAny_pure h⟩) htake)
    | exact wpAny_bind (m := Builtin.Tuple.tupleExact _) (wpAny_newObj_type (wpAny_bind (wpAny_pure (wpAny_pure ⟨_, rfl, wpAny_pure h⟩))) htake)
    | exact wpAny_bind (wpAny_bind (m := Builtin.Tuple.tupleExact _) (wpAny_newObj_type (wpAny_pure (wpAny_pure ⟨_, rfl, wpAny_pure h⟩)) htake))
    | exact wpAny_bind (wpAny_bind (m := Builtin.Tuple.tupleExact _) (wpAny_newObj_type (wpAny_pure ⟨_, rfl, wpAny_pure h⟩) htake))
end
end HT
namespace R
open PySem PySem.Spec L2
open PyProof.Rows hiding St
def tRevA (K : PySem.W.Frag) (te : TE) : TE := fun σ H Q => te σ H fun x H1 => ∃ a xs, x = .ref a ∧ ((SqL K H1 a xs ∧ ∀ p, H1 p = none → Q (.ref p) (upd H1 p (.lst xs.reverse))) ∨ (SqT K H1 a xs ∧ ∀ p, H1 p = none → Q (.ref p) (upd H1 p (.tup xs.reverse))))
theorem pe_revA {X : Cx} {e : Expr} {te : TE} {k : Nat} {p1 p2 p3 pos : Pos} (he : PE X e te) : PE X (.Subscript e (.Slice none none (some (.UnaryOp .USub (.Constant (.int 1) k p1) p2)) p3) pos) (tRevA X.K te) := by
  refine ⟨fun pins s σ H Q I h => ?_⟩
  refine Subscript_ (thn (he.run pins s σ H _ I h) fun v s1 ⟨x, H1, I1, r1, q1⟩ => ?_)
  obtain ⟨a, xs, ex, q⟩ := q1
  subst ex
  cases r1
  have hst : PO X (some (.UnaryOp .USub (.Constant (.int 1) k p1) p2)) (tPart (tUn (rU fun i => .int (-i)) (tC (.int 1)))) := po_some (pe_un un_neg pe_int)
  refine wpAny_Slice (thn (po_none.run pins s1 σ H1 (fun o H2 => o = none ∧ H2 = H1) I1 ⟨rfl, rfl⟩) fun vl s2 ⟨l, H2, I2, pl, el, e2⟩ => ?_)
  subst el e2
  refine thn (po_none.run pins s2 σ H2 (fun o H3 => o = none ∧ H3 = H2) I2 ⟨rfl, rfl⟩) fun vu s3 ⟨u, H3, I3, pu, eu, e3⟩ => ?_
  subst eu e3
  refine thn (hst.run pins s3 σ H3 (fun o H4 => o = some (-1) ∧ H4 = H3) I3 ⟨1, rfl, -1, rfl, rfl, rfl⟩) fun vs s4 ⟨o, H4, I4, ps, eo, e4⟩ => ?_
  subst eo e4
  have I5 : Inv X pins σ H4 { s4 with heap := s4.heap.push { cls := .type "slice", data := .fields #[vl, vu, vs] } } := I4.kept (t' := s4.toks) fun b ob q => Heap.get?_push_of_some _ q
  show wpAny (model X.prog X.w) X.A (subscriptTail e (.Slice none none (some (.UnaryOp .USub (.Constant (.int 1) k p1) p2)) p3) (.ref a) (.ref s4.heap.objs.size)) (EP X pins σ Q) X.xe { s4 with heap := s4.heap.push { cls := .type "slice", data := .fields #[vl, vu, vs] } }
  rcases q with ⟨hx, q⟩ | ⟨hx, q⟩
  · obtain ⟨its, r, ht, hz⟩ := I5.list hx
    have hlen := r.length
    refine tail_any (ops := [.ref a, .ref s4.heap.objs.size]) ht.isList.typeIs (PySem.slot_list_getitem.lookup) ?_ (by with_unfolding_all rfl)
    refine wpAny_getItem_list_slice ht.isList (Heap.IsSliceOf.new _ vl vu vs) pl pu ps (by decide) ?_ (by rw [List.size_toArray]; omega)
    rw [PySem.W.krv_pick]
    refine ⟨.ref _, _, I5.laid (t' := s4.toks) (o := .lst xs.reverse) (fun b ob q => Heap.get?_push_of_some _ q) (Nat.le_refl _) ?_, rfl, q _ (I5.hok.fresh (Nat.le_refl _))⟩
    exact ⟨by rw [List.length_reverse]; exact hz, _, 0, r.reverse, Heap.get?_push_size _ rfl⟩
  · obtain ⟨its, r, ht, hz⟩ := I5.tuple hx
    have hlen := r.length
    refine tail_any (ops := [.ref a, .ref s4.heap.objs.size]) ht.typeIs (PyProof.Rows.slot_tuple_getitem.lookup) ?_ (by with_unfolding_all rfl)
    refine HT.getItem_tuple_rev ht (Heap.IsSliceOf.new _ vl vu vs) pl pu ps ?_ (by rw [List.size_toArray]; omega)
    refine ⟨.ref _, _, I5.laid (t' := s4.toks) (o := .tup xs.reverse) (fun b ob q => Heap.get?_push_of_some _ q) (Nat.le_refl _) ?_, rfl, q _ (I5.hok.fresh (Nat.le_refl _))⟩
    exact ⟨by rw [List.length_reverse]; exact hz, its.reverse, r.reverse, IsTup.new _ _⟩
end R

/-! A6: argument lists, displays, slices, built-ins. -/
namespace R
open PySem PySem.Spec L2
open PyProof.Rows hiding St
section
variable (K : PySem.W.Frag) (W : WX)
def FinL (H : Hp) (s : St) (w R : List Addr) (ps : List PV) (σ' : Sto) (vs : List V) (H' : Hp) : Prop :=
  ∃ w' wv, Good K H' σ' s w' (wv ++ R) ∧ RepPs K H' (w' ++ (wv ++ R)) ps vs wv ∧ Step w H (w' ++ wv) H'
def OkL (H : Hp) (s : St) (w R : List Addr) (Q : List V → Hp → Prop) : List PV → Sto → Prop := fun ps σ' => ∀ vs H', FinL K H s w R ps σ' vs H' → Q vs H'
/-- a list of expressions, from the left -/
def TL (C : CF) (es : List E) : TA := fun s H Q => ∃ σ w R, Good K H σ s w R ∧ Out K W H s w R (OkL K H s w R Q) (evalEs C es σ)
end
section
variable {K : PySem.W.Frag} {W : WX} {C : CF} {H H1 H2 H' : Hp} {s : St} {w w1 w2 R wv wv2 O : List Addr} {σ σ1 σ2 : Sto} {Q : VK}
theorem nd_disj {A B : List Addr} (h : (A ++ B).Nodup) {b : Addr} (ha : b ∈ A) (hb : b ∈ B) : False := (List.nodup_append.mp h).2.2 b ha b hb rfl
/-- what stood pending stands -/
theorem Good.pend (g : Good K H1 σ1 s w1 R) (t : Step w1 H1 (w2 ++ wv2) H2) : Ext K H1 (w1 ++ R) H2 (w2 ++ (wv2 ++ R)) ∧ ∀ a ∈ R, ∀ o, H1 a = some o → H2 a = some o :=
  ⟨t.ext (fun b hb => g.mu b (List.mem_append_left _ hb)) (fun b hb => List.mem_append_left _ hb) fun b hb => by
    rw [← List.append_assoc] at hb
    rcases List.mem_append.mp hb with q | q
    · rcases t.old b q with z | z
      · exact .inl (List.mem_append_left _ z)
      · exact .inr z
    · exact .inl (List.mem_append_right _ q), fun a ha o e => t.keep a o e fun z => nd_disj g.nd z ha⟩
def notStar : Expr → Bool
  | .Starred _ _ => false
  | _ => true
theorem star_eq {e : Expr} (h : notStar e = true) (es : List Expr) (env : Env) : starEach (e :: es) env = (false, eval e env) :: starEach es env := by
  cases e <;> first
    | rfl
    | cases h
variable {X : Cx}
theorem tl_nil : PA X [] (TL X.K W C []) := PA.weak pa_nil fun s H Qb ⟨σ, w, R, g, h⟩ => by
  rw [evalEs] at h
  exact h [] H ⟨w, [], by simpa using g, by rw [RepPs]; exact ⟨rfl, rfl⟩, by simpa using Step.refl⟩
theorem tl_cons {e : Expr} {es : List Expr} {i : E} {is : List E} (he : PE X e (T X.K W C i)) (hr : PA X es (TL X.K W C is)) (hs : notStar e = true) : PA X (e :: es) (TL X.K W C (i :: is)) := by
  refine PA.weak (pa_cons he hr (star_eq hs es X.env)) fun s H Qb ⟨σ, w, R, g, h⟩ => ?_
  rw [evalEs] at h
  refine T.of g h fun p σ1 v H1 w1 wv g1 r1 t1 h1 => ⟨σ1, w1, wv ++ R, g1, ?_⟩
  cases e1 : evalEs C is σ1 with
  | bad => rw [e1] at h1; exact h1
  | exc c fs σ2 =>
    rw [e1] at h1
    exact OutX.step h1 t1
  | ok ps σ2 =>
    rw [e1] at h1
    rintro vs H2 ⟨w2, wv2, g2, r2, t2⟩
    obtain ⟨x, k⟩ := g1.pend t2
    have pm : (wv2 ++ (wv ++ R)).Perm ((wv ++ wv2) ++ R) := by
      rw [← List.append_assoc]
      exact List.Perm.append_right R List.perm_append_comm
    have mem : ∀ b, b ∈ w2 ++ ((wv ++ wv2) ++ R) → b ∈ w2 ++ (wv2 ++ (wv ++ R)) := fun b hb => (List.Perm.append_left w2 pm).mem_iff.mpr hb
    refine h1 (v :: vs) H2 ⟨w2, wv ++ wv2, g2.permR pm, ?_, ?_⟩
    · rw [RepPs]
      refine ⟨v, vs, wv, wv2, rfl, rfl, RepP.ext (Ext.less mem) _ _ _ (fun _ _ _ q => q) (RepP.ext x _ _ _ (fun a ha o e => k a (List.mem_append_left _ ha) o e) r1), RepPs.ext (Ext.less mem) _ _ _ (fun _ _ _ q => q) r2⟩
    · have t3 : Step w H (w2 ++ wv2) H2 := (t1.less fun b hb => List.mem_append_left _ hb).trans t2
      refine ⟨t3.keep, fun b hb => ?_⟩
      rcases List.mem_append.mp hb with q | q
      · exact t3.old b (List.mem_append_left _ q)
      · rcases List.mem_append.mp q with q | q
        · exact t1.old b (List.mem_append_right _ q)
        · exact t3.old b (List.mem_append_right _ q)
/-- one argument seen for a moment -/
def TLV (K : PySem.W.Frag) (W : WX) (C : CF) (i : E) : TA := fun s H Q => TV K W C i s H fun v H1 => Q [v] H1
theorem tl_view {e : Expr} {i : E} (he : PE X e (TV X.K W C i)) (hs : notStar e = true) : PA X [e] (TLV X.K W C i) := PA.weak (pa_cons he pa_nil (star_eq hs [] X.env)) fun _ _ _ h => h

/-! ### displays -/
theorem allD_none_or (ps : List PV) : (∃ ds, ps = ds.map .d ∧ mkTup ps = .d (.tup ds)) ∨ mkTup ps = .tup ps := by
  unfold mkTup
  cases e : allD ps with
  | none => exact .inr rfl
  | some ds => exact .inl ⟨ds, allD_some e, rfl⟩
theorem OkV.tupP {xs : List PV} {vs : List V} (h : OkV K H s w R Q (mkTup xs) σ1) (g : Good K H1 σ1 s w1 (wv ++ R)) (t : Step w H (w1 ++ wv) H1) (r : RepPs K H1 (w1 ++ (wv ++ R)) xs vs wv) {p : Addr} (hp : H1 p = none) : Q (.ref p) (upd H1 p (.tup vs)) := by
  rcases allD_none_or xs with ⟨ds, rfl, e⟩ | e
  · rw [e] at h
    obtain ⟨rfl, rd⟩ := r.toD
    exact OkV.tupD h (by simpa using g) (by simpa using t) (by simpa using rd) hp
  · rw [e] at h
    have k := upd_keep (o := .tup vs) hp
    have x : Ext K H1 (w1 ++ (wv ++ R)) (upd H1 p (.tup vs)) (w1 ++ (wv ++ R)) := (Step.same (w := w1) k).ext (fun b hb => g.mu b (List.mem_append_left _ hb)) (fun b hb => List.mem_append_left _ hb) fun b hb => .inl hb
    refine h _ _ ⟨w1, wv, g.keep k, ?_, t.trans (Step.same k)⟩
    rw [RepP]
    exact ⟨p, vs, rfl, .inl (.inl upd_same), RepPs.ext x _ _ _ (fun a _ o e => k a o e) r⟩
theorem TL.of {α : Type} {es : List E} {f : List PV → Sto → Res α} {ok : α → Sto → Prop} {Qb : List V → Hp → Prop} (g : Good K H σ s w R) (h : Out K W H s w R ok ((evalEs C es σ).bind f))
    (k : ∀ ps σ1 vs H1 w1 wv, Good K H1 σ1 s w1 (wv ++ R) → RepPs K H1 (w1 ++ (wv ++ R)) ps vs wv → Step w H (w1 ++ wv) H1 → Out K W H s w R ok (f ps σ1) → Qb vs H1) : TL K W C es s H Qb := by
  refine ⟨σ, w, R, g, ?_⟩
  cases e1 : evalEs C es σ with
  | ok p σ1 =>
    rw [e1] at h
    rintro v H1 ⟨w1, wv, g1, r1, t1⟩
    exact k p σ1 v H1 w1 wv g1 r1 t1 h
  | exc c fs σ1 =>
    rw [e1] at h
    exact h
  | bad =>
    rw [e1] at h
    exact h
theorem t_tup {es : List Expr} {is : List E} {k : Nat} {pos : Pos} (h : PA X es (TL X.K W C is)) : PE X (.Tuple es k pos) (T X.K W C (.tup is)) := by
  refine PE.weak (pe_tup h) fun s H Q ⟨σ, w, R, g, h⟩ => ?_
  rw [evalE] at h
  refine TL.of g h fun ps σ1 vs H1 w1 wv g1 r1 t1 h1 => ?_
  split at h1
  · rename_i c
    exact ⟨by rw [r1.length]; exact c, fun p hp => OkV.tupP h1 g1 t1 r1 hp⟩
  · exact h1.elim
theorem t_lst {es : List Expr} {is : List E} {pos : Pos} (h : PA X es (TL X.K W C is)) : PE X (.List es pos) (T X.K W C (.lst is)) := by
  refine PE.weak (pe_lst h) fun s H Q ⟨σ, w, R, g, h⟩ => ?_
  rw [evalE] at h
  refine TL.of g h fun ps σ1 vs H1 w1 wv g1 r1 t1 h1 => ?_
  split at h1
  · rename_i c
    exact ⟨by rw [r1.length]; exact c, fun p hp => OkV.lstP h1 g1 t1 r1 hp⟩
  · exact h1.elim

/-! ### slices -/
def TOo (K : PySem.W.Frag) (W : WX) (C : CF) (o : Option E) : TO := fun s H Q => ∃ σ w R, Good K H σ s w R ∧ Out K W H s w R (fun i σ' => ∀ H' w', Good K H' σ' s w' R → Step w H w' H' → Q i H') (evalO C o σ)
theorem to_none : PO X none (TOo X.K W C none) := ⟨fun pins s0 s H Q I ⟨σ, w, R, g, h⟩ => po_none.run pins s0 s H Q I (by rw [evalO] at h; exact h H w g .refl)⟩
theorem to_some {e : Expr} {i : E} (he : PE X e (T X.K W C i)) : PO X (some e) (TOo X.K W C (some i)) := ⟨fun pins s0 s H Q I ⟨σ, w, R, g, h⟩ => (po_some he).run pins s0 s H Q I (by
  rw [evalO] at h
  refine T.ofD g h fun p σ1 v H1 w1 g1 r1 t1 h1 => ?_
  cases e : p.frz with
  | int j =>
    rw [e] at h1 r1
    rw [RepD] at r1
    exact ⟨j, r1, h1 H1 w1 g1 t1⟩
  | _ => rw [e] at h1; exact h1.elim)⟩
theorem TOo.of {α : Type} {o : Option E} {f : Option Int → Sto → Res α} {ok : α → Sto → Prop} {Qb : Option Int → Hp → Prop} (g : Good K H σ s w R) (h : Out K W H s w R ok ((evalO C o σ).bind f))
    (k : ∀ i σ1 H1 w1, Good K H1 σ1 s w1 R → Step w H w1 H1 → Out K W H s w R ok (f i σ1) → Qb i H1) : TOo K W C o s H Qb := by
  refine ⟨σ, w, R, g, ?_⟩
  cases e1 : evalO C o σ with
  | ok p σ1 =>
    rw [e1] at h
    intro H1 w1 g1 t1
    exact k p σ1 H1 w1 g1 t1 h
  | exc c fs σ1 =>
    rw [e1] at h
    exact h
  | bad =>
    rw [e1] at h
    exact h
theorem RepDs.cut {xs : List Dat} {vs : List V} (r : RepDs K H O xs vs) (lo hi : Option Int) : RepDs K H O (cutD xs lo hi) (cutV vs lo hi) := by
  unfold cutD cutV
  rw [r.length]
  exact (r.drop _).take _
abbrev rSlX2 (K : PySem.W.Frag) : V → Option Int → Option Int → Hp → VK → Prop := fun x lo hi H Q => rSlL K x lo hi H Q ∨ rSlA K x lo hi H Q
theorem sl_any : SlR X (rSlX2 X.K) := SlR.or sl_list sl_tupA
theorem cut_whole {xs : List Dat} {lo hi : Option Int} (h : HT.sIx xs.length 0 lo = 0 ∧ HT.sIx xs.length xs.length hi = xs.length) : cutD xs lo hi = xs := by
  unfold cutD
  rw [h.1, h.2]
  simp
theorem sl_end {x : Dat} {v : V} {lo hi : Option Int} {z : PV} (e : slD x lo hi = some z) (f : FinW K H s w R x σ1 v H1) (ok : OkV K H s w R Q z σ1) : rSlX2 K v lo hi H1 Q := by
  obtain ⟨w1, g, r0, t, fl, fd⟩ := f
  unfold slD at e
  split at e
  · cases e
    have r := fd (fun _ z => nomatch z)
    rw [RepD] at r
    obtain ⟨a, vs, rfl, ha, rs⟩ := r
    refine .inr ⟨a, vs, rfl, ha, fun c => ?_, fun _ p hp => ok.tupD g t (rs.cut lo hi) hp⟩
    rw [rs.length] at c
    rw [cut_whole c] at ok
    exact ok.data g t (by rw [RepD]; exact ⟨a, vs, rfl, ha, rs⟩)
  · cases e
    obtain ⟨a, vs, rfl, ha, rs⟩ := fl _ rfl
    exact .inl ⟨a, vs, rfl, .of ha, fun p hp => ok.lstD g t (rs.cut lo hi) hp⟩
  · cases e
    have r := fd (fun _ z => nomatch z)
    rw [RepD] at r
    obtain ⟨a, vs, rfl, ha, rs⟩ := r
    exact .inl ⟨a, vs, rfl, ha.sq, fun p hp => ok.lstD g t (rs.cut lo hi) hp⟩
  · cases e
theorem t_sl {a : Expr} {ia : E} {lo hi : Option Expr} {l h : Option E} {p2 pos : Pos} (ha : PE X a (T X.K W C ia)) (hl : PO X lo (TOo X.K W C l)) (hh : PO X hi (TOo X.K W C h)) : PE X (.Subscript a (.Slice lo hi none p2) pos) (T X.K W C (.sl ia l h)) := by
  refine PE.weak (pe_slice sl_any ha hl hh) fun s H Q ⟨σ, w, R, g, hq⟩ => ?_
  rw [evalE] at hq
  refine T.ofD g hq fun p σ1 v H1 w1 g1 r1 t1 h1 => ?_
  refine TOo.of g1 (OutV.step h1 t1) fun i σ2 H2 w2 g2 t2 h2 => ?_
  refine TOo.of g2 (OutV.step h2 t2) fun j σ3 H3 w3 g3 t3 h3 => ?_
  obtain ⟨z, e, ok⟩ := Out.ofOpt h3
  exact sl_end e (FinW.of g3 (RepD.ext (g2.ext t3) _ _ (RepD.ext (g1.ext t2) _ _ r1)) t3) ok
theorem t_slv {x : Str} {r : Nat} {px : Pos} {lo hi : Option Expr} {l h : Option E} {p2 pos : Pos} (hN : X.N[r]? = some x) (hv : Vis X.env.scope x) (hd : (x == ("__debug__" : Str)) = false) (hcd : (x == ("__classdict__" : Str)) = false)
    (hl : PO X lo (TOo X.K W C l)) (hh : PO X hi (TOo X.K W C h)) : PE X (.Subscript (.Name x px) (.Slice lo hi none p2) pos) (T X.K W C (.slv r l h)) := by
  refine PE.weak (pe_slice sl_any (pe_var hN hv hd hcd) hl hh) fun s H Q ⟨σ, w, R, g, hq⟩ => ?_
  rw [evalE] at hq
  split at hq
  · rename_i p0 e0
    obtain ⟨v0, _, _, es, _⟩ := g.slot e0
    refine ⟨v0, es, ?_⟩
    refine TOo.of g hq fun i σ2 H2 w2 g2 t2 h2 => ?_
    refine TOo.of g2 (OutV.step h2 t2) fun j σ3 H3 w3 g3 t3 h3 => ?_
    split at h3
    · rename_i p e
      split at h3
      · rename_i y ey
        obtain ⟨v, es', f⟩ := FinW.slot g3 e ey
        rw [es] at es'
        cases es'
        obtain ⟨w4, g4, r4, t4, fl, fd⟩ := f
        obtain ⟨z, e, ok⟩ := Out.ofOpt h3
        exact sl_end e ⟨w4, g4, r4, t3.trans t4, fl, fd⟩ ok
      · exact h3.elim
    · exact h3.elim
  · exact hq.elim
theorem t_revs {a : Expr} {ia : E} {k : Nat} {p1 p2 p3 pos : Pos} (ha : PE X a (TV X.K W C ia)) : PE X (.Subscript a (.Slice none none (some (.UnaryOp .USub (.Constant (.int 1) k p1) p2)) p3) pos) (T X.K W C (.revs ia)) := by
  refine PE.weak (pe_revA ha) fun s H Q ⟨σ, w, R, g, hq⟩ => ?_
  rw [evalE] at hq
  refine TV.ofW g hq fun p σ1 v H1 f h1 => ?_
  obtain ⟨w1, g1, r1, t1, fl, fd⟩ := f
  obtain ⟨z, e, ok⟩ := Out.ofOpt h1
  unfold revD at e
  split at e
  · rename_i xs ex
    cases e
    obtain ⟨a, vs, rfl, ha, rs⟩ := fl xs ex
    exact ⟨a, vs, rfl, .inl ⟨.of ha, fun p hp => ok.lstD g1 t1 rs.reverse hp⟩⟩
  · rename_i xs ex
    cases e
    have rt := fd (fun ys h => by rw [h] at ex; cases ex)
    rw [ex, RepD] at rt
    obtain ⟨a, vs, rfl, ha, rs⟩ := rt
    refine ⟨a, vs, rfl, .inr ⟨ha, fun p hp => ?_⟩⟩
    exact OkV.tupP (wv := []) (xs := xs.reverse.map .d) (by rw [mkTup_map]; exact ok) (by simpa using g1) (by simpa using t1) (RepDs.toP _ _ (by simpa using rs.reverse)) hp
  · cases e

/-! ### isinstance -/
def tyName : Ty → String
  | .tuple => "tuple" | .list => "list" | .int => "int" | .bool => "bool" | .str => "str" | .dict => "dict"
def kindName : Dat → String
  | .non => "NoneType" | .bl _ => "bool" | .int _ => "int" | .str _ => "str" | .tup _ => "tuple" | .lst _ => "list" | .scr _ => "list" | .dic _ _ _ => "dict" | .set _ => "set"
inductive Kd where
  | non | bl | int | str | tup | lst | scr | dic | set
def kdOf : Dat → Kd
  | .non => .non | .bl _ => .bl | .int _ => .int | .str _ => .str | .tup _ => .tup | .lst _ => .lst | .scr _ => .scr | .dic _ _ _ => .dic | .set _ => .set
def kdNm : Kd → String
  | .non => "NoneType" | .bl => "bool" | .int => "int" | .str => "str" | .tup => "tuple" | .lst => "list" | .scr => "list" | .dic => "dict" | .set => "set"
def kdTy : Ty → Kd → Bool
  | .tuple, .tup => true | .list, .lst => true | .list, .scr => true | .int, .int => true | .int, .bl => true | .bool, .bl => true | .str, .str => true | .dict, .dic => true
  | _, _ => false
theorem kd_ok (t : Ty) (k : Kd) : kitB (kdNm k) (tyName t) = some (kdTy t k) := by
  cases t <;> cases k <;> decide +kernel
theorem kit_ok (t : Ty) (x : Dat) : kitB (kindName x) (tyName t) = some (tyD t x) := by
  have e1 : kindName x = kdNm (kdOf x) := by cases x <;> rfl
  have e2 : tyD t x = kdTy t (kdOf x) := by cases t <;> cases x <;> rfl
  rw [e1, e2]
  exact kd_ok t _
theorem RepD.ty {x : Dat} {v : V} (r : RepD K H O x v) : TyX K H v (.type (kindName x)) := by
  cases x with
  | non => rw [RepD] at r; subst r; exact .base .non
  | bl b => rw [RepD] at r; subst r; exact .base (.bl b)
  | int b => rw [RepD] at r; subst r; exact .base (.int b)
  | str b => rw [RepD] at r; subst r; exact .base (.str b)
  | tup xs =>
    rw [RepD] at r
    obtain ⟨a, vs, rfl, q, _⟩ := r
    rcases q with (q | ⟨o, q⟩) | ⟨o, its, n, q, c, _⟩
    · exact .base (.tup q)
    · exact .fTuple q
    · exact .kTuple q c
  | lst xs =>
    rw [RepD] at r
    obtain ⟨a, vs, rfl, _, q, _⟩ := r
    exact .base (.lst q)
  | scr xs =>
    rw [RepD] at r
    obtain ⟨a, vs, rfl, q, _⟩ := r
    rcases q with ⟨o, q⟩ | ⟨o, its, n, q, c, _⟩
    · exact .base (.frz q)
    · exact .kList q c
  | dic t ks vs =>
    rw [RepD] at r
    obtain ⟨a, us, o, rfl, _, q, hd, _⟩ := r
    rcases hd.is with ⟨kvs, rfl⟩ | ⟨kvs, rfl⟩
    · exact .base (.dK q)
    · exact .base (.dT q)
  | set _ => simp [RepD] at r
theorem kit_any {x : Dat} : ∀ ts : List Ty, PySem.W.kitAny K (.type (kindName x)) (ts.map fun t => Value.type (tyName t)) = some (ts.any fun t => tyD t x)
  | [] => rfl
  | t :: ts => by
    rw [List.map_cons, List.any_cons]
    refine kitAny_cons (kit_ty (kit_ok t x)) (fun e => ?_) fun e => ?_
    · rw [e, Bool.false_or]
      exact kit_any ts
    · rw [e, Bool.true_or]
/-- the classes, by name -/
def tyEs (ns : List (Str × Pos)) : List Expr := ns.map fun q => .Name q.1 q.2
structure BlOk (X : Cx) (x : Str) (u : Value) : Prop where
  gl : Gl X x
  mg : X.mg x = none
  bt : bootBuiltins x = some u
  nn : x ≠ "__name__"
  nd : (x == ("__debug__" : Str)) = false
theorem pe_ty {x : Str} {t : Ty} {pos : Pos} (h : BlOk X x (.type (tyName t))) : PE X (.Name x pos) (tC (.ty (tyName t))) := pe_bltn h.gl h.mg h.bt rfl h.nn h.nd
theorem t_isi1 {a : Expr} {ia : E} {t : Ty} {f x : Str} {pf px pos : Pos} (hf : BlOk X f (.builtin "isinstance")) (hx : BlOk X x (.type (tyName t))) (ha : PE X a (TV X.K W C ia)) (hs : notStar a = true) :
    PE X (.Call (.Name f pf) [a, .Name x px] [] pos) (T X.K W C (.isi ia [t])) := by
  refine PE.weak (pe_callB call_isi hf.gl hf.mg hf.bt (pa_cons ha (pa_cons (pe_ty hx) pa_nil rfl) (star_eq hs _ _)) hf.nn hf.nd (star_eq hs _ _) rfl) fun s H Q ⟨σ, w, R, g, hq⟩ => ?_
  rw [evalE] at hq
  refine TV.ofW g hq fun p σ1 v H1 f h1 => ?_
  obtain ⟨w1, g1, r1, t1, _⟩ := f
  have q := OkV.data h1 g1 t1 (by rw [RepD])
  have e : ([t].any fun t => tyD t p.frz) = tyD t p.frz := by simp
  rw [e] at q
  exact ⟨v, _, _, _, _, rfl, .ty _, r1.ty, kit_ty (kit_ok t p.frz), q⟩
theorem pa_tys : ∀ (ns : List (Str × Pos)) (ts : List Ty), Paired (fun (q : Str × Pos) (t : Ty) => BlOk X q.1 (.type (tyName t))) ns ts → PA X (tyEs ns) (fun _ H Q => Q (ts.map fun t => V.ty (tyName t)) H)
  | _, _, .nil => pa_nil
  | _, _, .cons h r => PA.weak (pa_cons (pe_ty h) (pa_tys _ _ r) rfl) fun _ _ _ q => q
theorem clsv_tys : ∀ ts : List Ty, Paired ClsV (ts.map fun t => V.ty (tyName t)) (ts.map fun t => Value.type (tyName t))
  | [] => .nil
  | t :: ts => .cons (.ty _) (clsv_tys ts)
theorem t_isiT {a : Expr} {ia : E} {ns : List (Str × Pos)} {ts : List Ty} {f : Str} {k : Nat} {pf px pos : Pos} (hf : BlOk X f (.builtin "isinstance")) (hx : Paired (fun (q : Str × Pos) (t : Ty) => BlOk X q.1 (.type (tyName t))) ns ts) (hl : ts.length ≤ 20) (ha : PE X a (TV X.K W C ia)) (hs : notStar a = true) :
    PE X (.Call (.Name f pf) [a, .Tuple (tyEs ns) k px] [] pos) (T X.K W C (.isi ia ts)) := by
  refine PE.weak (pe_callB call_isiT hf.gl hf.mg hf.bt (pa_cons ha (pa_cons (pe_tup (pa_tys ns ts hx)) pa_nil rfl) (star_eq hs _ _)) hf.nn hf.nd (star_eq hs _ _) rfl) fun s H Q ⟨σ, w, R, g, hq⟩ => ?_
  rw [evalE] at hq
  refine TV.ofW g hq fun p σ1 v H1 f h1 => ?_
  obtain ⟨w1, g1, r1, t1, _⟩ := f
  refine ⟨by rw [List.length_map, sizeLine_eq]; omega, fun tp hp => ?_⟩
  have kk := upd_keep (o := .tup (ts.map fun t => V.ty (tyName t))) hp
  have q := OkV.data h1 (g1.keep kk) (t1.trans (Step.same kk)) (by rw [RepD])
  have r2 : RepD X.K (upd H1 tp (.tup (ts.map fun t => V.ty (tyName t)))) [] p.frz v := RepD.ext ((Step.same (w := []) kk).ext (fun b hb => by cases hb) (fun b hb => by cases hb) fun b hb => .inl hb) _ _ r1
  exact ⟨v, tp, _, _, _, _, rfl, upd_same, clsv_tys ts, r2.ty, kit_any ts, q⟩

/-! ### built-ins of one argument -/
theorem ints_rep : ∀ {xs : List Dat} {ns : List Int} {vs : List V}, intsD xs = some ns → RepDs K H O xs vs → vs = ns.map V.int
  | [], _, _, e, r => by
    cases e
    rw [RepDs] at r
    exact r
  | .int i :: xs, ns, vs, e, r => by
    have e' : (intsD xs).map (i :: ·) = some ns := e
    cases e2 : intsD xs with
    | none => rw [e2] at e'; cases e'
    | some l =>
      rw [e2] at e'
      cases e'
      rw [RepDs] at r
      obtain ⟨v, t, rfl, r1, r2⟩ := r
      rw [RepD] at r1
      rw [r1, ints_rep e2 r2]
      rfl
  | .non :: _, _, _, e, _ | .bl _ :: _, _, _, e, _ | .str _ :: _, _, _, e, _ | .tup _ :: _, _, _, e, _ | .lst _ :: _, _, _, e, _ | .dic _ _ _ :: _, _, _, e, _ | .set _ :: _, _, _, e, _ | .scr _ :: _, _, _, e, _ => by cases e
theorem bools_rep : ∀ {xs : List Dat} {ns : List Bool} {vs : List V}, boolsD xs = some ns → RepDs K H O xs vs → vs = ns.map V.bl
  | [], _, _, e, r => by
    cases e
    rw [RepDs] at r
    exact r
  | .bl i :: xs, ns, vs, e, r => by
    have e' : (boolsD xs).map (i :: ·) = some ns := e
    cases e2 : boolsD xs with
    | none => rw [e2] at e'; cases e'
    | some l =>
      rw [e2] at e'
      cases e'
      rw [RepDs] at r
      obtain ⟨v, t, rfl, r1, r2⟩ := r
      rw [RepD] at r1
      rw [r1, bools_rep e2 r2]
      rfl
  | .non :: _, _, _, e, _ | .int _ :: _, _, _, e, _ | .str _ :: _, _, _, e, _ | .tup _ :: _, _, _, e, _ | .lst _ :: _, _, _, e, _ | .dic _ _ _ :: _, _, _, e, _ | .set _ :: _, _, _, e, _ | .scr _ :: _, _, _, e, _ => by cases e
theorem maxL_is : ∀ {ns : List Int} {m : Int}, m ∈ ns → (∀ y ∈ ns, y ≤ m) → maxL ns = some m
  | [], _, h, _ => by cases h
  | [x], m, h, _ => by
    have e : m = x := by simpa using h
    rw [e]
    rfl
  | x :: y :: r, m, h, k => by
    have ih : ∀ z, z ∈ y :: r → (∀ u ∈ y :: r, u ≤ z) → maxL (y :: r) = some z := fun z => maxL_is
    have ex : ∀ l : List Int, l ≠ [] → ∃ z, z ∈ l ∧ ∀ u ∈ l, u ≤ z := by
      intro l
      induction l with
      | nil => intro h; exact absurd rfl h
      | cons a l ihl =>
        intro _
        by_cases hl : l = []
        · subst hl
          exact ⟨a, by simp, by simp⟩
        · obtain ⟨z, hz, hu⟩ := ihl hl
          by_cases c : a ≤ z
          · exact ⟨z, by simp [hz], fun u hu' => by
              rcases List.mem_cons.mp hu' with q | q
              · rw [q]; exact c
              · exact hu u q⟩
          · exact ⟨a, by simp, fun u hu' => by
              rcases List.mem_cons.mp hu' with q | q
              · omega
              · have := hu u q; omega⟩
    obtain ⟨z, hz, hu⟩ := ex (y :: r) (by simp)
    have e : maxL (x :: y :: r) = (maxL (y :: r)).map fun m => max x m := rfl
    rw [e, ih z hz hu]
    have hzm : z ≤ m := k z (List.mem_cons_of_mem _ hz)
    have hxm : x ≤ m := k x (by simp)
    rcases List.mem_cons.mp h with q | q
    · show some (max x z) = some m
      rw [q] at hzm ⊢
      rw [Int.max_eq_left hzm]
    · have := hu m q
      have e3 : z = m := by omega
      show some (max x z) = some m
      rw [e3, Int.max_eq_right hxm]
theorem minL_is : ∀ {ns : List Int} {m : Int}, m ∈ ns → (∀ y ∈ ns, m ≤ y) → minL ns = some m
  | [], _, h, _ => by cases h
  | [x], m, h, _ => by
    have e : m = x := by simpa using h
    rw [e]
    rfl
  | x :: y :: r, m, h, k => by
    have ih : ∀ z, z ∈ y :: r → (∀ u ∈ y :: r, z ≤ u) → minL (y :: r) = some z := fun z => minL_is
    have ex : ∀ l : List Int, l ≠ [] → ∃ z, z ∈ l ∧ ∀ u ∈ l, z ≤ u := by
      intro l
      induction l with
      | nil => intro h; exact absurd rfl h
      | cons a l ihl =>
        intro _
        by_cases hl : l = []
        · subst hl
          exact ⟨a, by simp, by simp⟩
        · obtain ⟨z, hz, hu⟩ := ihl hl
          by_cases c : z ≤ a
          · exact ⟨z, by simp [hz], fun u hu' => by
              rcases List.mem_cons.mp hu' with q | q
              · rw [q]; exact c
              · exact hu u q⟩
          · exact ⟨a, by simp, fun u hu' => by
              rcases List.mem_cons.mp hu' with q | q
              · omega
              · have := hu u q; omega⟩
    obtain ⟨z, hz, hu⟩ := ex (y :: r) (by simp)
    have e : minL (x :: y :: r) = (minL (y :: r)).map fun m => min x m := rfl
    rw [e, ih z hz hu]
    have hzm : m ≤ z := k z (List.mem_cons_of_mem _ hz)
    have hxm : m ≤ x := k x (by simp)
    rcases List.mem_cons.mp h with q | q
    · show some (min x z) = some m
      rw [q] at hzm ⊢
      rw [Int.min_eq_left hzm]
    · have := hu m q
      have e3 : z = m := by omega
      show some (min x z) = some m
      rw [e3, Int.min_eq_right hxm]
theorem minL_none : ∀ {ns : List Int} {m : Int}, minL ns = some m → 0 < ns.length
  | [], _, h => by cases h
  | _ :: _, _, _ => by simp
theorem maxL_none : ∀ {ns : List Int} {m : Int}, maxL ns = some m → 0 < ns.length
  | [], _, h => by cases h
  | _ :: _, _, _ => by simp
/-- each built-in: its value, its rule -/
def biV : Bi → Value
  | .len => .builtin "len" | .abs => .builtin "abs" | .int => .type "int" | .str => .type "str" | .tuple => .type "tuple" | .list => .type "list" | .sorted => .builtin "sorted" | .sum => .builtin "sum"
  | .min => .builtin "min" | .max => .builtin "max" | .any => .builtin "any" | .all => .builtin "all" | .min2 => .builtin "min" | .max2 => .builtin "max"
def rBi (K : PySem.W.Frag) : Bi → List V → Hp → VK → Prop
  | .len => fun xs H Q => ∃ x n, xs = [x] ∧ LenV K x H n ∧ Q (.int n) H
  | .abs => fun xs H Q => ∃ i, xs = [.int i] ∧ Q (.int (if i < 0 then -i else i)) H
  | .int => fun xs H Q => (∃ i, xs = [.int i] ∧ Q (.int i) H) ∨ ∃ k, xs = [.bl k] ∧ Q (.int (if k then 1 else 0)) H
  | .str => fun xs H Q => ∃ i, xs = [.int i] ∧ i.natAbs.log2 < 1920 ∧ Q (.str (toString i)) H
  | .tuple => fun xs H Q => ∃ p ys, xs = [.ref p] ∧ ((SqL K H p ys ∧ ∀ l, H l = none → Q (.ref l) (upd H l (.tup ys))) ∨ (SqT K H p ys ∧ Q (.ref p) H))
  | .list => fun xs H Q => ∃ p ys, xs = [.ref p] ∧ (SqL K H p ys ∨ SqT K H p ys) ∧ ∀ l, H l = none → Q (.ref l) (upd H l (.lst ys))
  | .sum => rSum K
  | .min => rMin K
  | .max => rMax K
  | .any => rAny K
  | .all => rAll K
  | _ => fun _ _ _ => False
theorem bi_end {f : Bi} {x : Dat} {v : V} {z : PV} (e : biD f [x] = some z) (hf : f ≠ .sorted) (hf2 : f ≠ .min) (fw : FinW K H s w R x σ1 v H1) (ok : OkV K H s w R Q z σ1) : rBi K f [v] H1 Q := by
  obtain ⟨w1, g, r0, t, fl, fd⟩ := fw
  unfold biD at e
  split at e
  case h_1 =>
    rename_i xs ex
    cases ex; cases e
    have r := fd (fun _ z => nomatch z)
    rw [RepD] at r
    obtain ⟨a, vs, rfl, ha, rs⟩ := r
    refine ⟨_, vs.length, rfl, .inr ⟨vs, ha, rfl⟩, ?_⟩
    rw [rs.length]
    exact ok.data g t (by rw [RepD])
  case h_2 =>
    rename_i xs ex
    cases ex; cases e
    obtain ⟨a, vs, rfl, ha, rs⟩ := fl _ rfl
    refine ⟨_, vs.length, rfl, .inl ⟨vs, .of ha, rfl⟩, ?_⟩
    rw [rs.length]
    exact ok.data g t (by rw [RepD])
  case h_3 =>
    rename_i xs ex
    cases ex; cases e
    have r := fd (fun _ z => nomatch z)
    rw [RepD] at r
    obtain ⟨a, vs, rfl, ha, rs⟩ := r
    refine ⟨_, vs.length, rfl, .inl ⟨vs, ha.sq, rfl⟩, ?_⟩
    rw [rs.length]
    exact ok.data g t (by rw [RepD])
  case h_4 =>
    rename_i xs ex
    cases ex
    split at e
    · rename_i c
      cases e
      rw [RepD] at r0
      subst r0
      exact ⟨_, _, rfl, ⟨of_decide_eq_true c, rfl⟩, ok.data g t (by rw [RepD])⟩
    · cases e
  case h_5 =>
    rename_i i ex
    cases ex; cases e
    rw [RepD] at r0
    subst r0
    exact ⟨i, rfl, ok.data g t (by rw [RepD])⟩
  case h_6 =>
    rename_i i ex
    cases ex; cases e
    rw [RepD] at r0
    subst r0
    exact .inl ⟨i, rfl, ok.data g t (by rw [RepD])⟩
  case h_7 =>
    rename_i i ex
    cases ex; cases e
    rw [RepD] at r0
    subst r0
    exact .inr ⟨i, rfl, ok.data g t (by rw [RepD])⟩
  case h_8 =>
    rename_i i ex
    cases ex
    split at e
    · rename_i c
      cases e
      rw [RepD] at r0
      subst r0
      exact ⟨i, rfl, of_decide_eq_true c, ok.data g t (by rw [RepD])⟩
    · cases e
  case h_9 =>
    rename_i xs ex
    cases ex; cases e
    have r := fd (fun _ z => nomatch z)
    have r' := r
    rw [RepD] at r
    obtain ⟨a, vs, rfl, ha, rs⟩ := r
    exact ⟨a, vs, rfl, .inr ⟨ha, ok.data g t r'⟩⟩
  case h_10 =>
    rename_i xs ex
    cases ex; cases e
    obtain ⟨a, vs, rfl, ha, rs⟩ := fl _ rfl
    exact ⟨a, vs, rfl, .inl ⟨.of ha, fun p hp => ok.tupD g t rs hp⟩⟩
  case h_11 =>
    rename_i xs ex
    cases ex; cases e
    have r := fd (fun _ z => nomatch z)
    rw [RepD] at r
    obtain ⟨a, vs, rfl, ha, rs⟩ := r
    exact ⟨a, vs, rfl, .inr ha, fun p hp => ok.lstD g t rs hp⟩
  case h_12 =>
    rename_i xs ex
    cases ex; cases e
    obtain ⟨a, vs, rfl, ha, rs⟩ := fl _ rfl
    exact ⟨a, vs, rfl, .inl (.of ha), fun p hp => ok.lstD g t rs hp⟩
  case h_13 =>
    rename_i xs ex
    cases ex; cases e
    have r := fd (fun _ z => nomatch z)
    rw [RepD] at r
    obtain ⟨a, vs, rfl, ha, rs⟩ := r
    exact ⟨a, vs, rfl, .inl ha.sq, fun p hp => ok.lstD g t rs hp⟩
  case h_14 => exact absurd rfl hf
  case h_15 =>
    rename_i xs ex
    cases ex
    obtain ⟨a, vs, rfl, ha, rs⟩ := fl _ rfl
    cases e2 : intsD xs with
    | none => rw [e2] at e; cases e
    | some ns =>
      rw [e2] at e
      cases e
      have ev := ints_rep e2 rs
      subst ev
      exact ⟨a, ns, rfl, .of ha, ok.data g t (by rw [RepD])⟩
  case h_16 => exact absurd rfl hf2
  case h_17 =>
    rename_i xs ex
    cases ex
    obtain ⟨a, vs, rfl, ha, rs⟩ := fl _ rfl
    cases e2 : intsD xs with
    | none => rw [e2] at e; cases e
    | some ns =>
      rw [e2] at e
      have e' : (maxL ns).map (fun m => PV.d (.int m)) = some z := e
      cases e3 : maxL ns with
      | none => rw [e3] at e'; cases e'
      | some m0 =>
        rw [e3] at e'
        cases e'
        have ev := ints_rep e2 rs
        subst ev
        refine ⟨a, ns, rfl, .of ha, maxL_none e3, fun m hm hle => ?_⟩
        have := maxL_is hm hle
        rw [e3] at this
        cases this
        exact ok.data g t (by rw [RepD])
  case h_18 =>
    rename_i xs ex
    cases ex
    obtain ⟨a, vs, rfl, ha, rs⟩ := fl _ rfl
    cases e2 : boolsD xs with
    | none => rw [e2] at e; cases e
    | some ns =>
      rw [e2] at e
      cases e
      have ev := bools_rep e2 rs
      subst ev
      exact ⟨a, ns, rfl, .of ha, ok.data g t (by rw [RepD])⟩
  case h_19 =>
    rename_i xs ex
    cases ex
    obtain ⟨a, vs, rfl, ha, rs⟩ := fl _ rfl
    cases e2 : boolsD xs with
    | none => rw [e2] at e; cases e
    | some ns =>
      rw [e2] at e
      cases e
      have ev := bools_rep e2 rs
      subst ev
      exact ⟨a, ns, rfl, .of ha, ok.data g t (by rw [RepD])⟩
  all_goals first
    | exact absurd rfl hf
    | exact absurd rfl hf2
    | (cases e; done)
    | simp_all
def oneArg : Bi → Bool
  | .sorted => false | .min => false | .min2 => false | .max2 => false
  | _ => true
/-- f(a) -/
theorem t_bi1 {a : Expr} {ia : E} {f : Bi} {x : Str} {pf pos : Pos} (hc : X.calm = true) (hf : oneArg f = true) (hx : BlOk X x (biV f)) (ha : PE X a (TV X.K W C ia)) (hs : notStar a = true) :
    PE X (.Call (.Name x pf) [a] [] pos) (T X.K W C (.bi f [ia])) := by
  have reading : ∀ s H Q, T X.K W C (.bi f [ia]) s H Q → tCB (rBi X.K f) (TLV X.K W C ia) s H Q := fun s H Q ⟨σ, w, R, g, hq⟩ => by
    rw [evalE, evalEs] at hq
    simp only [evalEs, bind_assoc] at hq
    refine TV.ofW g hq fun p σ1 v H1 fw h1 => ?_
    obtain ⟨z, e, ok⟩ := Out.ofOpt (show Out X.K W H s w R (OkV X.K H s w R Q) (optR (biD f (frzs [p])) σ1) from h1)
    simp only [frzs_cons, frzs_nil] at e
    exact bi_end e (fun z => by subst z; cases hf) (fun z => by subst z; cases hf) fw ok
  have hA : PA X [a] (TLV X.K W C ia) := tl_view ha hs
  cases f with
  | len => exact PE.weak (pe_callB call_len hx.gl hx.mg hx.bt hA hx.nn hx.nd (star_eq hs _ _) rfl) reading
  | abs => exact PE.weak (pe_callB call_abs hx.gl hx.mg hx.bt hA hx.nn hx.nd (star_eq hs _ _) rfl) reading
  | int => exact PE.weak (pe_callTy call_int1 hx.gl hx.mg hx.bt hA hx.nn hx.nd (star_eq hs _ _) rfl) reading
  | str => exact PE.weak (pe_callTy call_str_int hx.gl hx.mg hx.bt hA hx.nn hx.nd (star_eq hs _ _) rfl) reading
  | tuple => exact PE.weak (pe_callTy call_tuple_of hx.gl hx.mg hx.bt hA hx.nn hx.nd (star_eq hs _ _) rfl) reading
  | list => exact PE.weak (pe_callTy call_list_of hx.gl hx.mg hx.bt hA hx.nn hx.nd (star_eq hs _ _) rfl) reading
  | sum => exact PE.weak (pe_callB (cr_sum hc) hx.gl hx.mg hx.bt hA hx.nn hx.nd (star_eq hs _ _) rfl) reading
  | min => cases hf
  | max => exact PE.weak (pe_callB (cr_max hc) hx.gl hx.mg hx.bt hA hx.nn hx.nd (star_eq hs _ _) rfl) reading
  | any => exact PE.weak (pe_callB (cr_any hc) hx.gl hx.mg hx.bt hA hx.nn hx.nd (star_eq hs _ _) rfl) reading
  | all => exact PE.weak (pe_callB (cr_all hc) hx.gl hx.mg hx.bt hA hx.nn hx.nd (star_eq hs _ _) rfl) reading
  | sorted => cases hf
  | min2 => cases hf
  | max2 => cases hf
theorem two_ints {f : Bi} {x y : Dat} {z : PV} (hf : f = .min2 ∨ f = .max2) (e : biD f [x, y] = some z) : ∃ i j, x = .int i ∧ y = .int j := by
  rcases hf with rfl | rfl <;> cases x <;> cases y <;> first
    | exact ⟨_, _, rfl, rfl⟩
    | (simp [biD] at e)
/-- min(a, b), max(a, b) of ints -/
theorem t_bi2 {a b : Expr} {ia ib : E} {f : Bi} {x : Str} {pf pos : Pos} (hc : X.calm = true) (hf : f = .min2 ∨ f = .max2) (hx : BlOk X x (biV f)) (ha : PE X a (T X.K W C ia)) (hb : PE X b (T X.K W C ib)) (hs : notStar a = true) (hs2 : notStar b = true) :
    PE X (.Call (.Name x pf) [a, b] [] pos) (T X.K W C (.bi f [ia, ib])) := by
  have step : ∀ (s : St) (H : Hp) (Q : VK) (k : List V → Hp → Prop), T X.K W C (.bi f [ia, ib]) s H Q → (∀ i j v u z H2, v = V.int i → u = V.int j → biD f [.int i, .int j] = some z → (∀ m, z = .d (.int m) → Q (.int m) H2) → k [v, u] H2) → tCons (T X.K W C ia) (tCons (T X.K W C ib) tNil) s H k := by
    rintro s H Q k ⟨σ, w, R, g, hq⟩ hk
    rw [evalE] at hq
    simp only [evalEs, bind_assoc] at hq
    refine T.ofD g hq fun p σ1 v H1 w1 g1 r1 t1 h1 => ?_
    refine T.ofD g1 (OutV.step h1 t1) fun q σ2 u H2 w2 g2 r2 t2 h2 => ?_
    obtain ⟨z, e, ok⟩ := Out.ofOpt (show Out X.K W H1 s w1 R (OkV X.K H1 s w1 R Q) (optR (biD f (frzs [p, q])) σ2) from h2)
    simp only [frzs_cons, frzs_nil] at e
    have r1' := RepD.ext (g1.ext t2) _ _ r1
    have key : ∃ i j, p.frz = .int i ∧ q.frz = .int j := two_ints hf e
    obtain ⟨i, j, ep, eq⟩ := key
    rw [ep, eq] at e
    rw [ep, RepD] at r1'
    rw [eq, RepD] at r2
    exact hk i j v u z H2 r1' r2 e fun m em => by
      subst em
      exact OkV.data ok g2 t2 (by rw [RepD])
  have hA := pa_cons ha (pa_cons hb pa_nil (star_eq hs2 _ _)) (star_eq hs [b] X.env)
  have hpl : (backTo pos (starEach [b] X.env)).any (·.1) = false := by rw [star_eq hs2] <;> rfl
  rcases hf with rfl | rfl
  · refine PE.weak (pe_callB (call_min2 hc) hx.gl hx.mg hx.bt hA hx.nn hx.nd (star_eq hs _ _) hpl) fun s H Q h => ?_
    refine step s H Q _ h fun i j v u z H2 hv hu e q => ⟨i, j, by rw [hv, hu], ?_⟩
    cases e
    have := q _ rfl
    rw [show (if j < i then j else i) = min i j by omega]
    exact this
  · refine PE.weak (pe_callB (call_max2 hc) hx.gl hx.mg hx.bt hA hx.nn hx.nd (star_eq hs _ _) hpl) fun s H Q h => ?_
    refine step s H Q _ h fun i j v u z H2 hv hu e q => ⟨i, j, by rw [hv, hu], ?_⟩
    cases e
    have := q _ rfl
    rw [show (if j > i then j else i) = max i j by omega]
    exact this
end
end R

/-! A7: calls of defs, methods of lists. -/
namespace R
open PySem PySem.Spec L2
open PyProof.Rows hiding St
section
variable (K : PySem.W.Frag) (C : CF)
/-- what the def numbered f promises -/
def spOf (f k : Nat) : Sp := fun vs H Q E => ∃ as w R, vs.length = k ∧ RepPs K H (w ++ R) as vs w ∧ (w ++ R).Nodup ∧ (∀ b ∈ w ++ R, Mut (H b)) ∧
  match C f as with
  | .ok pv as' => ∀ v H' w' wv, RepPs K H' (w' ++ (wv ++ R)) as' vs w' → RepP K H' (w' ++ (wv ++ R)) pv v wv → (w' ++ (wv ++ R)).Nodup → (∀ b ∈ w' ++ (wv ++ R), Mut (H' b)) → Step w H (w' ++ wv) H' → Q v H'
  | .exc c fs as' => ∀ cls d H' w', RepPs K H' (w' ++ R) as' vs w' → (w' ++ R).Nodup → (∀ b ∈ w' ++ R, Mut (H' b)) → Step w H w' H' → ExcAt K H' (w' ++ R) c fs cls d → E cls d H'
  | .bad => False
/-- the def that the name x calls is the one numbered f -/
structure CallOk (X : Cx) (x : Str) (f : Nat) : Prop where
  gl : Gl X x
  nd : (x == ("__debug__" : Str)) = false
  ex : ∃ (fa : Addr) (fd : FuncData) (ps : List Str) (j : Nat), X.mg x = some (.ref fa) ∧ PySem.W.keepIn X.K (.ref fa) = true ∧ Binds X.K fd ps [] ∧ FnOk X.prog X.w X.K X.mg X.base (L2.CX X.prog X.w) j fa fd ps (spOf X.K C f ps.length) ∧ Room j X.A ∧
    ∀ as, C f as ≠ .bad → as.length = ps.length
/-- arguments, the lent ones told by their slots -/
def RepLs (H : Hp) (O : List Addr) (s : St) : List E → List PV → List V → List Addr → Prop
  | [], ps, vs, w => ps = [] ∧ vs = [] ∧ w = []
  | e :: es, ps, vs, w => ∃ p ps' v vs', ps = p :: ps' ∧ vs = v :: vs' ∧
    match lendOf e with
    | some r => s[r]? = some (some v) ∧ RepLs H O s es ps' vs' w
    | none => ∃ w1 w2, w = w1 ++ w2 ∧ RepP K H O p v w1 ∧ RepLs H O s es ps' vs' w2
def LendV (s : St) : List E → List V → Prop
  | [], vs => vs = []
  | e :: es, vs => ∃ v vs', vs = v :: vs' ∧ (∀ r, lendOf e = some r → s[r]? = some (some v)) ∧ LendV s es vs'
end
section
variable {K : PySem.W.Frag} {W : WX} {C : CF} {H H1 H2 H' : Hp} {s : St} {w w1 w2 R wv wv2 O O' : List Addr} {σ σ1 σ2 : Sto} {Q : VK}
theorem RepLs.ext (x : Ext K H O H' O') : ∀ (es : List E) (ps : List PV) (vs : List V) (w : List Addr), (∀ a ∈ w, ∀ o, H a = some o → H' a = some o) → RepLs K H O s es ps vs w → RepLs K H' O' s es ps vs w
  | [], _, _, _, _, h => h
  | e :: es, ps, vs, w, k, h => by
    unfold RepLs at h ⊢
    obtain ⟨p, ps', v, vs', e1, e2, h⟩ := h
    refine ⟨p, ps', v, vs', e1, e2, ?_⟩
    cases le : lendOf e with
    | some r =>
      rw [le] at h
      exact ⟨h.1, RepLs.ext x es ps' vs' w k h.2⟩
    | none =>
      rw [le] at h
      obtain ⟨w1, w2, rfl, h1, h2⟩ := h
      exact ⟨w1, w2, rfl, RepP.ext x _ _ _ (fun a ha => k a (List.mem_append_left _ ha)) h1, RepLs.ext x es ps' vs' w2 (fun a ha => k a (List.mem_append_right _ ha)) h2⟩
theorem RepLs.lend : ∀ {es : List E} {ps : List PV} {vs : List V} {w : List Addr}, RepLs K H O s es ps vs w → LendV s es vs
  | [], _, _, _, h => h.2.1
  | e :: es, ps, vs, w, h => by
    unfold RepLs at h
    obtain ⟨p, ps', v, vs', _, rfl, h⟩ := h
    cases le : lendOf e with
    | some r =>
      rw [le] at h
      exact ⟨v, vs', rfl, (fun r' q => by
        rw [le] at q
        cases q
        exact h.1), h.2.lend⟩
    | none =>
      rw [le] at h
      obtain ⟨w1, w2, rfl, h1, h2⟩ := h
      exact ⟨v, vs', rfl, (fun r' q => by
        rw [le] at q
        cases q), h2.lend⟩
theorem takeL_ok : ∀ {es : List E} {ps : List PV} {σ : Sto} {vs : List V} {w wv : List Addr} {as : List PV} {σ' : Sto}, RepS K H O σ s w → RepLs K H O s es ps vs wv → takeL es ps σ = some (as, σ') →
    ∃ w' wa, RepS K H O σ' s w' ∧ RepPs K H O as vs wa ∧ (w ++ wv).Perm (w' ++ wa)
  | [], ps, σ, vs, w, wv, as, σ', hs, hl, ht => by
    obtain ⟨rfl, rfl, rfl⟩ := hl
    cases ht
    exact ⟨w, [], hs, by rw [RepPs]; exact ⟨rfl, rfl⟩, by simp⟩
  | e :: es, ps, σ, vs, w, wv, as, σ', hs, hl, ht => by
    unfold RepLs at hl
    obtain ⟨p, ps', v, vs', rfl, rfl, hl⟩ := hl
    unfold takeL at ht
    cases le : lendOf e with
    | none =>
      rw [le] at hl ht
      obtain ⟨w1, w2, rfl, h1, h2⟩ := hl
      cases e3 : takeL es ps' σ with
      | none => simp only [e3] at ht; cases ht
      | some q =>
        obtain ⟨as', σ2⟩ := q
        simp only [e3] at ht
        cases ht
        obtain ⟨w', wa, g1, g2, pm⟩ := takeL_ok hs h2 e3
        refine ⟨w', w1 ++ wa, g1, by rw [RepPs]; exact ⟨v, vs', w1, wa, rfl, rfl, h1, g2⟩, ?_⟩
        have e1 : (w ++ (w1 ++ w2)).Perm (w1 ++ (w ++ w2)) := by
          rw [← List.append_assoc, ← List.append_assoc]
          exact List.Perm.append_right w2 List.perm_append_comm
        refine e1.trans ((List.Perm.append_left w1 pm).trans ?_)
        rw [← List.append_assoc, ← List.append_assoc]
        exact List.Perm.append_right wa List.perm_append_comm
    | some r =>
      simp only [le] at hl ht
      obtain ⟨hv, hl⟩ := hl
      have cont : ∀ (q : PV) (σ1 : Sto) (w0 wr : List Addr), RepS K H O σ1 s w0 → RepP K H O q v wr → w.Perm (wr ++ w0) → (takeL es ps' σ1).map (fun z => (q :: z.1, z.2)) = some (as, σ') → ∃ w' wa, RepS K H O σ' s w' ∧ RepPs K H O as (v :: vs') wa ∧ (w ++ wv).Perm (w' ++ wa) := by
        intro q σ1 w0 wr hs1 hq pm0 ht1
        cases e3 : takeL es ps' σ1 with
        | none => rw [e3] at ht1; cases ht1
        | some z =>
          obtain ⟨as', σ2⟩ := z
          rw [e3] at ht1
          cases ht1
          obtain ⟨w', wa, g1, g2, pm⟩ := takeL_ok hs1 hl e3
          refine ⟨w', wr ++ wa, g1, by rw [RepPs]; exact ⟨v, vs', wr, wa, rfl, rfl, hq, g2⟩, ?_⟩
          refine (List.Perm.append_right wv pm0).trans ?_
          rw [List.append_assoc]
          refine (List.Perm.append_left wr pm).trans ?_
          rw [← List.append_assoc, ← List.append_assoc]
          exact List.Perm.append_right wa List.perm_append_comm
      split at ht
      · rename_i x e2
        obtain ⟨v', wr, w'', es', rp, _, _⟩ := hs.take e2
        rw [hv] at es'
        cases es'
        have rp' := rp
        rw [RepP] at rp
        obtain ⟨rfl, _⟩ := rp
        exact cont (.d x) σ w [] hs rp' (by simp) ht
      · rename_i q _ e2
        obtain ⟨v', wr, w'', es', rp, rs, pm⟩ := hs.take e2
        rw [hv] at es'
        cases es'
        exact cont q (σ.set r none) w'' wr rs rp pm ht
      · cases ht
theorem RepS.clear (h : RepS K H O σ s w) (r : Nat) : ∃ wd w', RepS K H O (σ.set r none) s w' ∧ w.Perm (wd ++ w') := by
  obtain ⟨wd, w', h1, h2⟩ := h.drop r (s[r]?.join)
  refine ⟨wd, w', ?_, h2⟩
  have hl0 := h.length
  by_cases hr : r < s.length
  · have e : s.set r (s[r]?.join) = s := by
      rw [List.getElem?_eq_getElem hr]
      exact List.set_getElem_self hr
    rw [e] at h1
    exact h1
  · have hl := h.length
    have e : s.set r (s[r]?.join) = s := List.set_eq_of_length_le (by omega)
    rw [e] at h1
    exact h1
theorem giveL_ok (σ0 : Sto) : ∀ {es : List E} {as : List PV} {σ : Sto} {vs : List V} {w wa : List Addr}, RepS K H O σ s w → RepPs K H O as vs wa → LendV s es vs → ∃ w' wd, RepS K H O (giveL σ0 es as σ) s w' ∧ (w ++ wa).Perm (wd ++ w')
  | [], as, σ, vs, w, wa, hs, ha, hv => by
    refine ⟨w, wa, ?_, List.perm_append_comm⟩
    cases as <;> exact hs
  | e :: es, [], σ, vs, w, wa, hs, ha, hv => ⟨w, wa, hs, List.perm_append_comm⟩
  | e :: es, p :: ps, σ, vs, w, wa, hs, ha, hv => by
    rw [RepPs] at ha
    obtain ⟨v, t, w1, w2, rfl, rfl, h1, h2⟩ := ha
    obtain ⟨v', vs', ev, hl, hv'⟩ := hv
    cases ev
    have skip : ∃ w' wd, RepS K H O (giveL σ0 es ps σ) s w' ∧ (w ++ (w1 ++ w2)).Perm (wd ++ w') := by
      obtain ⟨w', wd, g1, g2⟩ := giveL_ok σ0 hs h2 hv'
      refine ⟨w', w1 ++ wd, g1, ?_⟩
      have e1 : (w ++ (w1 ++ w2)).Perm (w1 ++ (w ++ w2)) := by
        rw [← List.append_assoc, ← List.append_assoc]
        exact List.Perm.append_right w2 List.perm_append_comm
      refine e1.trans ((List.Perm.append_left w1 g2).trans ?_)
      rw [List.append_assoc]
    unfold giveL
    cases le : lendOf e with
    | none => exact skip
    | some r =>
      simp only
      split
      · exact skip
      · obtain ⟨wd0, w0, c1, c2⟩ := hs.clear r
        have c3 := c1.put (hl r le) h1
        obtain ⟨w', wd, g1, g2⟩ := giveL_ok σ0 c3 h2 hv'
        refine ⟨w', wd0 ++ wd, g1, ?_⟩
        refine (List.Perm.append_right _ c2).trans ?_
        rw [List.append_assoc, List.append_assoc]
        refine List.Perm.append_left wd0 (List.Perm.trans ?_ g2)
        rw [← List.append_assoc]
        exact List.Perm.append_right w2 List.perm_append_comm
      · exact skip
variable {X : Cx}
/-- arguments, some lent -/
def TLd (K : PySem.W.Frag) (W : WX) (C : CF) (es : List E) : TA := fun s H Q => ∃ σ w R, Good K H σ s w R ∧
  Out K W H s w R (fun ps σ' => ∀ vs H' w' wv, Good K H' σ' s w' (wv ++ R) → RepLs K H' (w' ++ (wv ++ R)) s es ps vs wv → Step w H (w' ++ wv) H' → Q vs H') (evalEs C es σ)
theorem ld_nil : PA X [] (TLd X.K W C []) := PA.weak pa_nil fun s H Qb ⟨σ, w, R, g, h⟩ => by
  rw [evalEs] at h
  exact h [] H w [] (by simpa using g) ⟨rfl, rfl, rfl⟩ (by simpa using Step.refl)
theorem ld_cons_r {i : E} {is : List E} {Qb : List V → Hp → Prop} (hi : lendOf i = none) (h0 : TLd K W C (i :: is) s H Qb) : tCons (T K W C i) (TLd K W C is) s H Qb := by
  obtain ⟨σ, w, R, g, h⟩ := h0
  rw [evalEs] at h
  refine T.of g h fun p σ1 v H1 w1 wv g1 r1 t1 h1 => ⟨σ1, w1, wv ++ R, g1, ?_⟩
  cases e1 : evalEs C is σ1 with
  | bad => rw [e1] at h1; exact h1
  | exc c fs σ2 =>
    rw [e1] at h1
    exact OutX.step h1 t1
  | ok ps σ2 =>
    rw [e1] at h1
    intro vs H2 w2 wv2 g2 r2 t2
    obtain ⟨x, k⟩ := g1.pend t2
    have pm : (wv2 ++ (wv ++ R)).Perm ((wv ++ wv2) ++ R) := by
      rw [← List.append_assoc]
      exact List.Perm.append_right R List.perm_append_comm
    have mem : ∀ b, b ∈ w2 ++ ((wv ++ wv2) ++ R) → b ∈ w2 ++ (wv2 ++ (wv ++ R)) := fun b hb => (List.Perm.append_left w2 pm).mem_iff.mpr hb
    refine h1 (v :: vs) H2 w2 (wv ++ wv2) (g2.permR pm) ?_ ?_
    · unfold RepLs
      refine ⟨p, ps, v, vs, rfl, rfl, ?_⟩
      rw [hi]
      exact ⟨wv, wv2, rfl, RepP.ext (Ext.less mem) _ _ _ (fun _ _ _ q => q) (RepP.ext x _ _ _ (fun a ha o e => k a (List.mem_append_left _ ha) o e) r1), RepLs.ext (Ext.less mem) _ _ _ _ (fun _ _ _ q => q) r2⟩
    · have t3 : Step w H (w2 ++ wv2) H2 := (t1.less fun b hb => List.mem_append_left _ hb).trans t2
      refine ⟨t3.keep, fun b hb => ?_⟩
      rcases List.mem_append.mp hb with q | q
      · exact t3.old b (List.mem_append_left _ q)
      · rcases List.mem_append.mp q with q | q
        · exact t1.old b (List.mem_append_right _ q)
        · exact t3.old b (List.mem_append_right _ q)
theorem ld_cons {e : Expr} {es : List Expr} {i : E} {is : List E} (hi : lendOf i = none) (he : PE X e (T X.K W C i)) (hr : PA X es (TLd X.K W C is)) (hs : notStar e = true) : PA X (e :: es) (TLd X.K W C (i :: is)) :=
  PA.weak (pa_cons he hr (star_eq hs es X.env)) fun s H Qb h => ld_cons_r hi h
theorem ld_lend_r {r : Nat} {is : List E} {Qb : List V → Hp → Prop} (h0 : TLd K W C (.lend r :: is) s H Qb) : tCons (tVar r) (TLd K W C is) s H Qb := by
  obtain ⟨σ, w, R, g, h⟩ := h0
  rw [evalEs, evalE] at h
  split at h
  · rename_i p0 e0
    obtain ⟨v0, _, _, es', _⟩ := g.slot e0
    simp only [Res.bind_ok] at h
    refine ⟨v0, es', σ, w, R, g, ?_⟩
    cases e1 : evalEs C is σ with
    | bad => rw [e1] at h; exact h
    | exc c fs σ2 => rw [e1] at h; exact h
    | ok ps σ2 =>
      rw [e1] at h
      intro vs H2 w2 wv2 g2 r2 t2
      refine h (v0 :: vs) H2 w2 wv2 g2 ?_ t2
      unfold RepLs
      exact ⟨_, ps, v0, vs, rfl, rfl, es', r2⟩
  · exact h.elim
theorem ld_lend {x : Str} {es : List Expr} {r : Nat} {is : List E} {px : Pos} (hN : X.N[r]? = some x) (hv : Vis X.env.scope x) (hd : (x == ("__debug__" : Str)) = false) (hcd : (x == ("__classdict__" : Str)) = false) (hr : PA X es (TLd X.K W C is)) :
    PA X (.Name x px :: es) (TLd X.K W C (.lend r :: is)) :=
  PA.weak (pa_cons (pe_var hN hv hd hcd) hr rfl) fun s H Qb h => ld_lend_r h
/-- the promise's premise from the arguments' reading -/
theorem call_end {f k : Nat} {es : List E} {ps : List PV} {vs : List V} (hk : ∀ as, C f as ≠ .bad → as.length = k) (g1 : Good K H1 σ1 s w1 (wv ++ R)) (rl : RepLs K H1 (w1 ++ (wv ++ R)) s es ps vs wv) (t1 : Step w H (w1 ++ wv) H1)
    (h1 : Out K W H s w R (OkV K H s w R Q) (match takeL es ps σ1 with
      | some (as, σ2) => (match C f as with
        | .ok v as' => .ok v (giveL σ1 es as' σ2)
        | .exc c fs as' => .exc c fs (giveL σ1 es as' σ2)
        | .bad => .bad)
      | none => .bad)) : spOf K C f k vs H1 Q (WE W s) := by
  cases et : takeL es ps σ1 with
  | none => rw [et] at h1; exact h1.elim
  | some z =>
    obtain ⟨as, σ2⟩ := z
    rw [et] at h1
    obtain ⟨w2, wa, s2, ra, pm⟩ := takeL_ok g1.rep rl et
    have hl := rl.lend
    have pmO : (w1 ++ (wv ++ R)).Perm (wa ++ (w2 ++ R)) := by
      rw [← List.append_assoc, ← List.append_assoc]
      exact List.Perm.append_right R (pm.trans List.perm_append_comm)
    have mem : ∀ b, b ∈ wa ++ (w2 ++ R) → b ∈ w1 ++ (wv ++ R) := fun b hb => pmO.mem_iff.mpr hb
    have len : ∀ {β : Type} {x : β}, C f as ≠ .bad → vs.length = k := fun {_ _} hb => by rw [ra.length]; exact hk as hb
    have nd2 := pmO.nodup_iff.mp g1.nd
    refine ⟨as, wa, w2 ++ R, ?_, RepPs.ext (Ext.less mem) _ _ _ (fun _ _ _ q => q) ra, nd2, fun b hb => g1.mu b (mem b hb), ?_⟩
    · by_cases hb : C f as = .bad
      · simp only [hb] at h1
        exact h1.elim
      · exact len (x := ()) hb
    have subw : ∀ b, b ∈ wa → b ∈ w1 ++ wv := fun b hb => pm.mem_iff.mpr (List.mem_append_right _ hb)
    have subw2 : ∀ b, b ∈ w2 → b ∈ w1 ++ wv := fun b hb => pm.mem_iff.mpr (List.mem_append_left _ hb)
    have base : ∀ {w' : List Addr} {H' : Hp}, Step wa H1 w' H' → Step w H w' H' := by
      intro w' H' t'
      refine ⟨fun b o e n => ?_, fun b hb => ?_⟩
      · have e1 := t1.keep b o e n
        refine t'.keep b o e1 fun z => ?_
        rcases t1.old b (subw b z) with q | q
        · exact n q
        · rw [e] at q
          cases q
      · rcases t'.old b hb with q | q
        · exact t1.old b (subw b q)
        · cases e : H b with
          | none => exact .inr rfl
          | some o =>
            by_cases z : b ∈ w
            · exact .inl z
            · rw [t1.keep b o e z] at q
              cases q
    have keep2 : ∀ {w' : List Addr} {H' : Hp}, Step wa H1 w' H' → ∀ a ∈ w2, ∀ o, H1 a = some o → H' a = some o := fun {w' H'} t' a ha o e => t'.keep a o e fun z => nd_disj nd2 z (List.mem_append_left _ ha)
    have oldw : ∀ {w' : List Addr} {H' : Hp}, Step wa H1 w' H' → ∀ b ∈ w2, b ∈ w ∨ H b = none := fun {_ _} _ b hb => t1.old b (subw2 b hb)
    cases ec : C f as with
    | bad => simp only [ec] at h1; exact h1.elim
    | ok pv as' =>
      simp only [ec] at h1
      intro v H' w' wv' ra' rv' nd' mu' t'
      have ex : Ext K H1 (w1 ++ (wv ++ R)) H' (w' ++ (wv' ++ (w2 ++ R))) := t'.ext (fun b hb => g1.mu b (mem b (List.mem_append_left _ hb))) (fun b hb => mem b (List.mem_append_left _ hb)) fun b hb => by
        rw [← List.append_assoc] at hb
        rcases List.mem_append.mp hb with q | q
        · rcases t'.old b q with q | q
          · exact .inl (mem b (List.mem_append_left _ q))
          · exact .inr q
        · exact .inl (mem b (List.mem_append_right _ q))
      have s2' := s2.ext ex (keep2 t')
      obtain ⟨w3, wd, s3, pm3⟩ := giveL_ok σ1 s2' ra' hl
      have pmF : (w' ++ (wv' ++ (w2 ++ R))).Perm (wd ++ (w3 ++ (wv' ++ R))) := by
        have a1 : (w' ++ (wv' ++ (w2 ++ R))).Perm ((w2 ++ w') ++ (wv' ++ R)) := by
          have b1 : (wv' ++ (w2 ++ R)).Perm (w2 ++ (wv' ++ R)) := by
            rw [← List.append_assoc, ← List.append_assoc]
            exact List.Perm.append_right R List.perm_append_comm
          refine (List.Perm.append_left w' b1).trans ?_
          rw [← List.append_assoc]
          exact List.Perm.append_right _ List.perm_append_comm
        refine a1.trans ((List.Perm.append_right _ pm3).trans ?_)
        rw [List.append_assoc]
      have memF : ∀ b, b ∈ w3 ++ (wv' ++ R) → b ∈ w' ++ (wv' ++ (w2 ++ R)) := fun b hb => pmF.mem_iff.mpr (List.mem_append_right _ hb)
      refine h1 v H' ⟨w3, wv', ⟨s3.ext (Ext.less memF) fun _ _ _ q => q, (List.nodup_append.mp (pmF.nodup_iff.mp nd')).2.1, fun b hb => mu' b (memF b hb)⟩, RepP.ext (Ext.less memF) _ _ _ (fun _ _ _ q => q) rv', (base t').keep, fun b hb => ?_⟩
      rcases List.mem_append.mp hb with q | q
      · have : b ∈ w2 ++ w' := pm3.mem_iff.mpr (List.mem_append_right _ q)
        rcases List.mem_append.mp this with z | z
        · exact oldw t' b z
        · exact (base t').old b (List.mem_append_left _ z)
      · exact (base t').old b (List.mem_append_right _ q)
    | exc c fs as' =>
      simp only [ec] at h1
      intro cls d H' w' ra' nd' mu' t' xe
      have ex : Ext K H1 (w1 ++ (wv ++ R)) H' (w' ++ (w2 ++ R)) := t'.ext (fun b hb => g1.mu b (mem b (List.mem_append_left _ hb))) (fun b hb => mem b (List.mem_append_left _ hb)) fun b hb => by
        rcases List.mem_append.mp hb with q | q
        · rcases t'.old b q with q | q
          · exact .inl (mem b (List.mem_append_left _ q))
          · exact .inr q
        · exact .inl (mem b (List.mem_append_right _ q))
      have s2' := s2.ext ex (keep2 t')
      obtain ⟨w3, wd, s3, pm3⟩ := giveL_ok σ1 s2' ra' hl
      have pmF : (w' ++ (w2 ++ R)).Perm (wd ++ (w3 ++ R)) := by
        have a1 : (w' ++ (w2 ++ R)).Perm ((w2 ++ w') ++ R) := by
          rw [← List.append_assoc]
          exact List.Perm.append_right _ List.perm_append_comm
        refine a1.trans ((List.Perm.append_right _ pm3).trans ?_)
        rw [List.append_assoc]
      have memF : ∀ b, b ∈ w3 ++ R → b ∈ w' ++ (w2 ++ R) := fun b hb => pmF.mem_iff.mpr (List.mem_append_right _ hb)
      refine h1 cls d H' ⟨w3, ⟨s3.ext (Ext.less memF) fun _ _ _ q => q, (List.nodup_append.mp (pmF.nodup_iff.mp nd')).2.1, fun b hb => mu' b (memF b hb)⟩, ⟨(base t').keep, fun b hb => ?_⟩, xe.less memF⟩
      have : b ∈ w2 ++ w' := pm3.mem_iff.mpr (List.mem_append_right _ hb)
      rcases List.mem_append.mp this with z | z
      · exact oldw t' b z
      · exact (base t').old b z
theorem TLd.of {α : Type} {es : List E} {f : List PV → Sto → Res α} {ok : α → Sto → Prop} {Qb : List V → Hp → Prop} (g : Good K H σ s w R) (h : Out K W H s w R ok ((evalEs C es σ).bind f))
    (k : ∀ ps σ1 vs H1 w1 wv, Good K H1 σ1 s w1 (wv ++ R) → RepLs K H1 (w1 ++ (wv ++ R)) s es ps vs wv → Step w H (w1 ++ wv) H1 → Out K W H s w R ok (f ps σ1) → Qb vs H1) : TLd K W C es s H Qb := by
  refine ⟨σ, w, R, g, ?_⟩
  cases e1 : evalEs C es σ with
  | ok p σ1 =>
    rw [e1] at h
    intro v H1 w1 wv g1 r1 t1
    exact k p σ1 v H1 w1 wv g1 r1 t1 h
  | exc c fs σ1 =>
    rw [e1] at h
    exact h
  | bad =>
    rw [e1] at h
    exact h
/-- no argument is starred -/
theorem noStars : ∀ {es : List Expr} {pos : Pos} {env : Env}, es.all notStar = true → (backTo pos (starEach es env)).any (·.1) = false
  | [], _, _, _ => rfl
  | e :: es, pos, env, h => by
    have h' : notStar e = true ∧ es.all notStar = true := by simpa using h
    rw [star_eq h'.1]
    have ih := noStars (pos := pos) (env := env) h'.2
    unfold backTo at ih ⊢
    rw [List.map_cons, List.any_cons]
    simpa using ih
theorem t_call {x : Str} {f : Nat} {e : Expr} {es : List Expr} {is : List E} {p pos : Pos} (tk : Takes X W) (hc : CallOk C X x f) (ha : PA X (e :: es) (TLd X.K W C is)) (hs : (e :: es).all notStar = true) : PE X (.Call (.Name x p) (e :: es) [] pos) (T X.K W C (.call f is)) := by
  obtain ⟨fa, fd, ps, j, hm, hk, hb, F, hr, har⟩ := hc.ex
  have h' : notStar e = true ∧ es.all notStar = true := by simpa using hs
  refine PE.weak (pe_callS (E := WE W) F hr hc.gl hm hk hb (fun σ => passAt tk σ) ha hc.nd (star_eq h'.1 _ _) (noStars h'.2)) fun s H Q ⟨σ, w, R, g, h⟩ => ?_
  rw [evalE] at h
  refine TLd.of g h fun ps' σ1 vs H1 w1 wv g1 r1 t1 h1 => ?_
  exact call_end har g1 r1 t1 h1
theorem t_call0 {x : Str} {f : Nat} {p pos : Pos} (tk : Takes X W) (hc : CallOk C X x f) : PE X (.Call (.Name x p) [] [] pos) (T X.K W C (.call f [])) := by
  obtain ⟨fa, fd, ps, j, hm, hk, hb, F, hr, har⟩ := hc.ex
  refine ⟨fun pins s0 s H Q I ⟨σ, w, R, g, h⟩ => ?_⟩
  refine wpAny_Call_Name_kw (ld_glob I hc.gl hm ?_ hc.nd)
  refine PySem.W.callWith_K0 I.kIn hk (run_fnS (us := []) (vs := []) (E := WE W) F hr hb (passAt tk s) I .nil ?_)
  rw [evalE] at h
  simp only [evalEs, Res.bind_ok] at h
  exact call_end (es := []) (ps := []) har (wv := []) (w1 := w) (by simpa using g) ⟨rfl, rfl, rfl⟩ (by simpa using Step.refl) h
end
end R

/-! A8: methods of lists in slots; stores by place. -/
namespace R
open PySem PySem.Spec L2
open PyProof.Rows hiding St
section
variable {K : PySem.W.Frag} {W : WX} {C : CF} {H H1 H2 H' : Hp} {s : St} {w w1 w2 R wv wv2 O O' : List Addr} {σ σ1 σ2 : Sto} {Q : VK}
/-- a list that is owned is changed -/
theorem Ext.upd {l : Addr} {us us' : List V} (hl : H l = some (.lst us)) (hO : l ∈ O) : Ext K H O (upd H l (.lst us')) O where
  tup := fun a vs q => by
    rcases q with (q | ⟨o, q⟩) | q
    · exact .inl (.inl (by rw [upd_ne (ne_of q hl (by intro z; cases z))]; exact q))
    · exact .inl (.inr ⟨o, by rw [upd_ne (ne_of q hl (by intro z; cases z))]; exact q⟩)
    · exact .inr q
  lst := fun a vs q n => ⟨by rw [upd_ne (fun z => n (by rw [z]; exact hO))]; exact q, n⟩
  scr := fun a vs q => by
    rcases q with ⟨o, q⟩ | q
    · exact .inl ⟨o, by rw [upd_ne (ne_of q hl (by intro z; cases z))]; exact q⟩
    · exact .inr q
  dic := fun a o _ q n => ⟨by rw [upd_ne (fun z => n (by rw [z]; exact hO))]; exact q, n⟩
theorem Good.lst (g : Good K H σ s w R) {r : Nat} {xs : List PV} (e : σ[r]? = some (some (.lst xs))) :
    ∃ l us wi w', s[r]? = some (some (.ref l)) ∧ H l = some (.lst us) ∧ RepPs K H (w ++ R) xs us wi ∧ w.Perm (l :: (wi ++ w')) ∧
      ∀ xs' us' wi' R', RepPs K H (w ++ R) xs' us' wi' → (wi ++ R).Perm (wi' ++ R') →
        Good K (upd H l (.lst us')) (σ.set r (some (.lst xs'))) s (l :: (wi' ++ w')) R' ∧ Ext K H (w ++ R) (upd H l (.lst us')) (l :: (wi' ++ w') ++ R') ∧ (∀ a ∈ R', a ≠ l) ∧ ∀ b ∈ l :: (wi' ++ w') ++ R', b ∈ w ++ R := by
  obtain ⟨v, wr, w', es, rp, rs, pm⟩ := g.slot e
  rw [RepP] at rp
  obtain ⟨l, us, wi, rfl, rfl, hl, rps⟩ := rp
  refine ⟨l, us, wi, w', es, hl, rps, pm, fun xs' us' wi' R' rp' pm' => ?_⟩
  have pmO : (w ++ R).Perm ((l :: (wi' ++ w')) ++ R') := by
    refine (List.Perm.append_right R pm).trans ?_
    show (l :: ((wi ++ w') ++ R)).Perm (l :: ((wi' ++ w') ++ R'))
    refine List.Perm.cons l ?_
    have a1 : ((wi ++ w') ++ R).Perm (w' ++ (wi ++ R)) := by
      rw [← List.append_assoc]
      exact List.Perm.append_right R List.perm_append_comm
    refine a1.trans ((List.Perm.append_left w' pm').trans ?_)
    rw [← List.append_assoc]
    exact List.Perm.append_right R' List.perm_append_comm
  have nd := pmO.nodup_iff.mp g.nd
  have mem : ∀ b, b ∈ (l :: (wi' ++ w')) ++ R' → b ∈ w ++ R := fun b hb => pmO.mem_iff.mpr hb
  have hlO : l ∈ w ++ R := mem l (by simp)
  have nl : l ∉ (wi' ++ w') ++ R' := by
    have h2 : (l :: ((wi' ++ w') ++ R')).Nodup := nd
    exact (List.nodup_cons.mp h2).1
  have kp : ∀ a ∈ (wi' ++ w') ++ R', ∀ o, H a = some o → upd H l (.lst us') a = some o := fun a ha o e => by
    rw [upd_ne (fun z => nl (by rw [← z]; exact ha))]
    exact e
  have x0 : Ext K H (w ++ R) (upd H l (.lst us')) (w ++ R) := Ext.upd hl hlO
  have less : Ext K (upd H l (.lst us')) (w ++ R) (upd H l (.lst us')) ((l :: (wi' ++ w')) ++ R') := Ext.less mem
  refine ⟨⟨?_, nd, fun b hb => ?_⟩, ⟨fun a vs q => x0.tup a vs q, fun a vs q n => ⟨(x0.lst a vs q n).1, fun z => n (mem a z)⟩, fun a vs q => x0.scr a vs q, fun a o d q n => ⟨(x0.dic a o d q n).1, fun z => n (mem a z)⟩⟩, fun a ha z => nl (by rw [← z]; exact List.mem_append_right _ ha), mem⟩
  · have rs' := (rs.ext x0 (fun a ha o e => kp a (List.mem_append_left _ (List.mem_append_right _ ha)) o e)).ext less fun _ _ _ q => q
    have rp2 := RepPs.ext less _ _ _ (fun _ _ _ q => q) (RepPs.ext x0 _ _ _ (fun a ha o e => kp a (List.mem_append_left _ (List.mem_append_left _ ha)) o e) rp')
    have := rs'.put (p := .lst xs') (wr := l :: wi') es (by rw [RepP]; exact ⟨l, us', wi', rfl, rfl, upd_same, rp2⟩)
    exact this
  · by_cases z : b = l
    · rw [z, upd_same]
      exact True.intro
    · rw [upd_ne z]
      exact g.mu b (mem b hb)
/-- the step of such a change, behind (w, H) -/
theorem Step.chg {l : Addr} {us : List V} {o : HO} (t : Step w H w1 H1) (hl : H1 l = some (.lst us)) (hw : l ∈ w1) (h : ∀ b ∈ w2, b ∈ w1) : Step w H w2 (upd H1 l o) where
  keep := fun b u e n => by
    have e1 := t.keep b u e n
    rw [upd_ne]
    · exact e1
    · intro z
      subst z
      rcases t.old b hw with q | q
      · exact n q
      · rw [e] at q; cases q
  old := fun b hb => t.old b (h b hb)
theorem RepPs.last : ∀ {xs : List PV} {us : List V} {wi : List Addr} {p : PV}, RepPs K H O xs us wi → xs[xs.length - 1]? = some p → ∃ u wd wp, us[us.length - 1]? = some u ∧ RepP K H O p u wp ∧ RepPs K H O xs.dropLast us.dropLast wd ∧ wi = wd ++ wp
  | [], _, _, _, _, e => by simp at e
  | [x], us, wi, p, h, e => by
    rw [RepPs] at h
    obtain ⟨v, r, w1, w2, rfl, rfl, h1, h2⟩ := h
    rw [RepPs] at h2
    obtain ⟨rfl, rfl⟩ := h2
    simp at e
    subst e
    exact ⟨v, [], w1, rfl, h1, by simp [RepPs], by simp⟩
  | x :: y :: xs, us, wi, p, h, e => by
    rw [RepPs] at h
    obtain ⟨v, r, w1, w2, rfl, rfl, h1, h2⟩ := h
    have hl := h2.length
    obtain ⟨u, wd, wp, e1, q1, q2, rfl⟩ := RepPs.last (xs := y :: xs) (p := p) h2 (by simpa using e)
    have hr : r ≠ [] := fun z => by rw [z] at hl; simp at hl
    refine ⟨u, w1 ++ wd, wp, ?_, q1, ?_, by rw [List.append_assoc]⟩
    · cases r with
      | nil => exact absurd rfl hr
      | cons a l => simpa using e1
    · rw [List.dropLast_cons_of_ne_nil (by simp), List.dropLast_cons_of_ne_nil hr, RepPs]
      exact ⟨v, _, w1, wd, rfl, rfl, h1, q2⟩
theorem RepPs.erase : ∀ {xs : List PV} {us : List V} {wi : List Addr} {p : PV} {k : Nat}, RepPs K H O xs us wi → xs[k]? = some p → ∃ u wd wp, us[k]? = some u ∧ RepP K H O p u wp ∧ RepPs K H O (xs.eraseIdx k) (us.eraseIdx k) wd ∧ wi.Perm (wd ++ wp)
  | [], _, _, _, _, _, e => by simp at e
  | x :: xs, us, wi, p, 0, h, e => by
    rw [RepPs] at h
    obtain ⟨v, r, w1, w2, rfl, rfl, h1, h2⟩ := h
    simp at e
    subst e
    exact ⟨v, w2, w1, rfl, h1, h2, List.perm_append_comm⟩
  | x :: xs, us, wi, p, k + 1, h, e => by
    rw [RepPs] at h
    obtain ⟨v, r, w1, w2, rfl, rfl, h1, h2⟩ := h
    obtain ⟨u, wd, wp, e1, q1, q2, pm⟩ := RepPs.erase (k := k) (p := p) h2 (by simpa using e)
    refine ⟨u, w1 ++ wd, wp, by simpa using e1, q1, ?_, by rw [List.append_assoc]; exact List.Perm.append_left w1 pm⟩
    rw [List.eraseIdx_cons_succ, List.eraseIdx_cons_succ, RepPs]
    exact ⟨v, _, w1, wd, rfl, rfl, h1, q2⟩
theorem RepPs.setD : ∀ {xs : List PV} {us : List V} {wi : List Addr} {k : Nat} {x : Dat} {u : V}, RepPs K H O xs us wi → RepD K H O x u → ∃ wd wo, RepPs K H O (xs.set k (.d x)) (us.set k u) wd ∧ wi.Perm (wd ++ wo)
  | [], us, wi, k, x, u, h, _ => by
    rw [RepPs] at h
    obtain ⟨rfl, rfl⟩ := h
    exact ⟨[], [], by simp [RepPs], by simp⟩
  | y :: xs, us, wi, 0, x, u, h, hx => by
    rw [RepPs] at h
    obtain ⟨v, r, w1, w2, rfl, rfl, h1, h2⟩ := h
    refine ⟨w2, w1, ?_, List.perm_append_comm⟩
    rw [List.set_cons_zero, List.set_cons_zero, RepPs]
    exact ⟨u, r, [], w2, rfl, rfl, by rw [RepP]; exact ⟨rfl, hx⟩, h2⟩
  | y :: xs, us, wi, k + 1, x, u, h, hx => by
    rw [RepPs] at h
    obtain ⟨v, r, w1, w2, rfl, rfl, h1, h2⟩ := h
    obtain ⟨wd, wo, q, pm⟩ := RepPs.setD (k := k) h2 hx
    refine ⟨w1 ++ wd, wo, ?_, by rw [List.append_assoc]; exact List.Perm.append_left w1 pm⟩
    rw [List.set_cons_succ, List.set_cons_succ, RepPs]
    exact ⟨v, _, w1, wd, rfl, rfl, h1, q⟩

variable {X : Cx}
/-- the receiver is a list -/
theorem meth_recv (g : Good K H σ s w R) {r : Nat} {xs : List PV} (e : σ[r]? = some (some (.lst xs))) : ∃ l, s[r]? = some (some (.ref l)) ∧ tyV K "list" (.ref l) H := by
  obtain ⟨l, us, _, _, es, hl, _⟩ := g.lst e
  exact ⟨l, es, .inl ⟨rfl, us, .of hl⟩⟩
theorem append_end {r : Nat} {p : PV} {ps : List PV} {vs : List V} {z : PV × PV} {l : Addr} (g : Good K H1 σ1 s w1 (wv ++ R)) (t : Step w H (w1 ++ wv) H1) (rp : RepPs K H1 (w1 ++ (wv ++ R)) ps vs wv) (el : s[r]? = some (some (.ref l))) (ep : σ1[r]? = some (some p))
    (em : methP .append p ps = some z) (ok : OkV K H s w R Q z.1 (σ1.set r (some z.2))) : rAppend (.ref l) vs H1 Q := by
  unfold methP at em
  split at em <;> first
    | cases em; done
    | skip
  · rename_i xs v hm
    split at em
    · rename_i c
      cases em
      rw [RepPs] at rp
      obtain ⟨u, t0, wa, wb, rfl, rfl, r1, r2⟩ := rp
      rw [RepPs] at r2
      obtain ⟨rfl, rfl⟩ := r2
      obtain ⟨l', us, wi, w', es, hl, rx, pm, upd1⟩ := g.lst ep
      rw [el] at es
      cases es
      refine ⟨l, us, u, rfl, rfl, hl, by rw [rx.length]; exact c, ?_⟩
      have rx' : RepPs K H1 (w1 ++ (wa ++ [] ++ R)) (xs ++ [v]) (us ++ [u]) (wi ++ wa) := by
        have : RepPs K H1 (w1 ++ (wa ++ [] ++ R)) [v] [u] wa := by
          rw [RepPs]
          exact ⟨u, [], wa, [], rfl, by simp, r1, by rw [RepPs]; exact ⟨rfl, rfl⟩⟩
        exact rx.append this
      obtain ⟨g', x, nl, mem⟩ := upd1 (xs ++ [v]) (us ++ [u]) (wi ++ wa) R rx' (by simp)
      have hlw : l ∈ w1 := pm.mem_iff.mpr (by simp)
      refine OkV.data ok g' (t.chg hl (List.mem_append_left _ hlw) fun b hb => ?_) (by rw [RepD])
      rcases List.mem_cons.mp hb with q | q
      · rw [q]
        exact List.mem_append_left _ hlw
      · simp only [List.mem_append] at q
        rcases q with (q | q) | q
        · exact List.mem_append_left _ (pm.mem_iff.mpr (by simp [q]))
        · exact List.mem_append_right _ (by simpa using q)
        · exact List.mem_append_left _ (pm.mem_iff.mpr (by simp [q]))
    · cases em
  all_goals simp_all
theorem t_append {x : Str} {e : Expr} {i : E} {r : Nat} {px apos cpos : Pos} (hN : X.N[r]? = some x) (hv : Vis X.env.scope x) (hd : (x == ("__debug__" : Str)) = false) (hcd : (x == ("__classdict__" : Str)) = false) (he : PE X e (T X.K W C i)) (hs : notStar e = true) (hline : (apos.endLine == cpos.line) = true) :
    PE X (.Call (.Attribute (.Name x px) "append" apos) [e] [] cpos) (T X.K W C (.meth .append r [i])) := by
  refine PE.weak (pe_bm PySem.F.plainAttrs_list PySem.F.slot_list_append PySem.F.type_list_append mt_append (pe_var hN hv hd hcd) (tl_cons he tl_nil hs) rfl (by
    rw [star_eq hs]
    rfl) hline (star_eq hs _ _) rfl) fun s H Q ⟨σ, w, R, g, h⟩ => ?_
  rw [evalE] at h
  split at h
  · rename_i xs e0
    obtain ⟨l, es, ty⟩ := meth_recv g e0
    refine ⟨_, es, ty, ?_⟩
    refine TL.of g h fun ps σ1 vs H1 w1 wv g1 r1 t1 h1 => ?_
    split at h1
    · rename_i p ep
      split at h1
      · rename_i v p' em
        exact append_end g1 t1 r1 es ep em h1
      · exact h1.elim
    · exact h1.elim
  · exact h.elim
theorem pop_end {r : Nat} {p : PV} {z : PV × PV} {l : Addr} (g : Good K H1 σ1 s w1 R) (t : Step w H w1 H1) (el : s[r]? = some (some (.ref l))) (ep : σ1[r]? = some (some p))
    (em : methP .pop p [] = some z) (ok : OkV K H s w R Q z.1 (σ1.set r (some z.2))) : rPop (.ref l) [] H1 Q := by
  cases p with
  | lst xs =>
    have em' : (xs[xs.length - 1]?).map (fun v => (v, PV.lst xs.dropLast)) = some z := em
    cases ev : xs[xs.length - 1]? with
    | none => rw [ev] at em'; cases em'
    | some v =>
      rw [ev] at em'
      cases em'
      obtain ⟨l', us, wi, w', es, hl, rx, pm, upd1⟩ := g.lst ep
      rw [el] at es
      cases es
      obtain ⟨u, wd, wp, e1, q1, q2, rfl⟩ := rx.last ev
      refine ⟨l, us, u, rfl, rfl, hl, e1, ?_⟩
      obtain ⟨g', x, nl, mem⟩ := upd1 xs.dropLast us.dropLast wd (wp ++ R) q2 (by rw [List.append_assoc])
      have hlw : l ∈ w1 := pm.mem_iff.mpr (by simp)
      refine ok u _ ⟨_, wp, g', RepP.ext x _ _ _ (fun a ha o e => by rw [upd_ne (nl a (List.mem_append_left _ ha))]; exact e) q1, t.chg hl hlw fun b hb => ?_⟩
      simp only [List.mem_append, List.mem_cons] at hb
      rcases hb with (q | q | q) | q
      · rw [q]; exact hlw
      · exact pm.mem_iff.mpr (by simp [q])
      · exact pm.mem_iff.mpr (by simp [q])
      · exact pm.mem_iff.mpr (by simp [q])
  | _ => cases em
theorem t_pop {x : Str} {r : Nat} {px apos cpos : Pos} (hN : X.N[r]? = some x) (hv : Vis X.env.scope x) (hd : (x == ("__debug__" : Str)) = false) (hcd : (x == ("__classdict__" : Str)) = false) (hline : (apos.endLine == cpos.line) = true) :
    PE X (.Call (.Attribute (.Name x px) "pop" apos) [] [] cpos) (T X.K W C (.meth .pop r [])) := by
  refine PE.weak (pe_bm0 PySem.F.plainAttrs_list PySem.F.slot_list_pop PySem.F.type_list_pop mt_pop (pe_var hN hv hd hcd) rfl hline) fun s H Q ⟨σ, w, R, g, h⟩ => ?_
  rw [evalE] at h
  split at h
  · rename_i xs e0
    obtain ⟨l, es, ty⟩ := meth_recv g e0
    refine ⟨_, es, ty, ?_⟩
    simp only [evalEs, Res.bind_ok] at h
    rw [e0] at h
    simp only at h
    split at h
    · rename_i v p' em
      exact pop_end g .refl es e0 em h
    · exact h.elim
  · exact h.elim
theorem popAt_end {r : Nat} {p : PV} {ps : List PV} {vs : List V} {z : PV × PV} {l : Addr} (g : Good K H1 σ1 s w1 (wv ++ R)) (t : Step w H (w1 ++ wv) H1) (rp : RepPs K H1 (w1 ++ (wv ++ R)) ps vs wv) (el : s[r]? = some (some (.ref l))) (ep : σ1[r]? = some (some p))
    (em : methP .popAt p ps = some z) (ok : OkV K H s w R Q z.1 (σ1.set r (some z.2))) : rPopAt (.ref l) vs H1 Q := by
  unfold methP at em
  split at em <;> first
    | cases em; done
    | skip
  case h_3 =>
    rename_i xs i hm
    split at em
    · rename_i c
      obtain ⟨d1, d2⟩ := inR_ok c
      have c1 : -(2 ^ 63) ≤ i := by omega
      have c2 : i < 2 ^ 63 := by omega
      rw [RepPs] at rp
      obtain ⟨u0, t0, wa, wb, rfl, rfl, r1, r2⟩ := rp
      rw [RepPs] at r2
      obtain ⟨rfl, rfl⟩ := r2
      rw [RepP, RepD] at r1
      obtain ⟨rfl, rfl⟩ := r1
      obtain ⟨l', us, wi, w', es, hl, rx, pm, upd1⟩ := g.lst ep
      rw [el] at es
      cases es
      cases ek : seqIndex? i xs.length with
      | none => rw [ek] at em; cases em
      | some k =>
        rw [ek] at em
        have em' : (xs[k]?).map (fun v => (v, PV.lst (xs.eraseIdx k))) = some z := em
        cases ev : xs[k]? with
        | none => rw [ev] at em'; cases em'
        | some v =>
          rw [ev] at em'
          cases em'
          obtain ⟨u, wd, wp, e1, q1, q2, pm2⟩ := rx.erase ev
          refine ⟨l, us, i, k, u, rfl, rfl, hl, c1, c2, by rw [rx.length]; exact ek, e1, ?_⟩
          obtain ⟨g', x, nl, mem⟩ := upd1 (xs.eraseIdx k) (us.eraseIdx k) wd (wp ++ R) q2 (by
            rw [← List.append_assoc]
            simpa using List.Perm.append_right R pm2)
          have hlw : l ∈ w1 := pm.mem_iff.mpr (by simp)
          refine ok u _ ⟨_, wp, g', RepP.ext x _ _ _ (fun a ha o e => by rw [upd_ne (nl a (List.mem_append_left _ ha))]; exact e) q1, (t.less (w2 := w1) fun b hb => List.mem_append_left _ hb).chg hl hlw fun b hb => ?_⟩
          simp only [List.mem_append, List.mem_cons] at hb
          rcases hb with (q | q | q) | q
          · rw [q]; exact hlw
          · exact pm.mem_iff.mpr (by simp [pm2.mem_iff, q])
          · exact pm.mem_iff.mpr (by simp [q])
          · exact pm.mem_iff.mpr (by simp [pm2.mem_iff, q])
    · cases em
  all_goals simp_all
theorem t_popAt {x : Str} {e : Expr} {i : E} {r : Nat} {px apos cpos : Pos} (hN : X.N[r]? = some x) (hv : Vis X.env.scope x) (hd : (x == ("__debug__" : Str)) = false) (hcd : (x == ("__classdict__" : Str)) = false) (he : PE X e (T X.K W C i)) (hs : notStar e = true) (hline : (apos.endLine == cpos.line) = true) :
    PE X (.Call (.Attribute (.Name x px) "pop" apos) [e] [] cpos) (T X.K W C (.meth .popAt r [i])) := by
  refine PE.weak (pe_bm PySem.F.plainAttrs_list PySem.F.slot_list_pop PySem.F.type_list_pop mt_popAt (pe_var hN hv hd hcd) (tl_cons he tl_nil hs) rfl (by
    rw [star_eq hs]
    rfl) hline (star_eq hs _ _) rfl) fun s H Q ⟨σ, w, R, g, h⟩ => ?_
  rw [evalE] at h
  split at h
  · rename_i xs e0
    obtain ⟨l, es, ty⟩ := meth_recv g e0
    refine ⟨_, es, ty, ?_⟩
    refine TL.of g h fun ps σ1 vs H1 w1 wv g1 r1 t1 h1 => ?_
    split at h1
    · rename_i p ep
      split at h1
      · rename_i v p' em
        exact popAt_end g1 t1 r1 es ep em h1
      · exact h1.elim
    · exact h1.elim
  · exact h.elim
theorem extend_end {r : Nat} {p : PV} {ps : List PV} {vs : List V} {z : PV × PV} {l : Addr} (g : Good K H1 σ1 s w1 (wv ++ R)) (t : Step w H (w1 ++ wv) H1) (rp : RepPs K H1 (w1 ++ (wv ++ R)) ps vs wv) (el : s[r]? = some (some (.ref l))) (ep : σ1[r]? = some (some p))
    (em : methP .extend p ps = some z) (ok : OkV K H s w R Q z.1 (σ1.set r (some z.2))) : rExtend (.ref l) vs H1 Q := by
  obtain ⟨xs, rfl⟩ : ∃ xs, p = .lst xs := by
    unfold methP at em
    split at em <;> first
      | cases em; done
      | exact ⟨_, rfl⟩
      | simp_all
  -- the argument: its items, where it stands
  have arg : ∃ ys q zs wy wq, vs = [V.ref q] ∧ H1 q = some (.lst zs) ∧ RepPs K H1 (w1 ++ (wv ++ R)) ys zs wy ∧ wv = wq ++ wy ∧ xs.length + ys.length ≤ sizeLine ∧ z = (.d .non, .lst (xs ++ ys)) := by
    unfold methP at em
    split at em <;> first
      | cases em; done
      | skip
    case h_4 =>
      simp only [PV.lst.injEq] at *
      subst_vars
      split at em
      · rename_i c
        cases em
        rw [RepPs] at rp
        obtain ⟨u0, t0, wa, wb, rfl, rfl, r1, r2⟩ := rp
        rw [RepPs] at r2
        obtain ⟨rfl, rfl⟩ := r2
        rw [RepP] at r1
        obtain ⟨a, zs, wy, rfl, rfl, ha, rs⟩ := r1
        exact ⟨_, a, zs, wy, [a], rfl, ha, rs, by simp, c, rfl⟩
      · cases em
    case h_5 =>
      simp only [PV.lst.injEq] at *
      subst_vars
      split at em
      · rename_i c
        cases em
        rw [RepPs] at rp
        obtain ⟨u0, t0, wa, wb, rfl, rfl, r1, r2⟩ := rp
        rw [RepPs] at r2
        obtain ⟨rfl, rfl⟩ := r2
        rw [RepP, RepD] at r1
        obtain ⟨rfl, a, zs, rfl, _, ha, rs⟩ := r1
        exact ⟨_, a, zs, [], [], rfl, ha, rs.toP, by simp, by simpa using c, rfl⟩
      · cases em
    all_goals simp_all
  obtain ⟨ys, q, zs, wy, wq, rfl, hq, ry, rfl, hlen, rfl⟩ := arg
  obtain ⟨l', us, wi, w', es, hl, rx, pm, upd1⟩ := g.lst ep
  rw [el] at es
  cases es
  refine ⟨l, q, us, zs, rfl, rfl, hl, hq, by rw [rx.length, ry.length]; exact hlen, ?_⟩
  obtain ⟨g', x, nl, mem⟩ := upd1 (xs ++ ys) (us ++ zs) (wi ++ wy) (wq ++ R) (rx.append ry) (by
    rw [List.append_assoc, List.append_assoc]
    refine List.Perm.append_left wi ?_
    rw [← List.append_assoc, ← List.append_assoc]
    exact List.Perm.append_right R List.perm_append_comm)
  have hlw : l ∈ w1 := pm.mem_iff.mpr (by simp)
  refine OkV.data ok (g'.lessR (List.sublist_append_right _ _)) (t.chg hl (List.mem_append_left _ hlw) fun b hb => ?_) (by rw [RepD])
  simp only [List.mem_append, List.mem_cons] at hb ⊢
  rcases hb with q | (q | q) | q
  · rw [q]; exact .inl hlw
  · exact .inl (pm.mem_iff.mpr (by simp [q]))
  · exact .inr (.inr q)
  · exact .inl (pm.mem_iff.mpr (by simp [q]))
theorem t_extend {x : Str} {e : Expr} {i : E} {r : Nat} {px apos cpos : Pos} (hN : X.N[r]? = some x) (hv : Vis X.env.scope x) (hd : (x == ("__debug__" : Str)) = false) (hcd : (x == ("__classdict__" : Str)) = false) (he : PE X e (T X.K W C i)) (hs : notStar e = true) (hline : (apos.endLine == cpos.line) = true) :
    PE X (.Call (.Attribute (.Name x px) "extend" apos) [e] [] cpos) (T X.K W C (.meth .extend r [i])) := by
  refine PE.weak (pe_bm PySem.F.plainAttrs_list PySem.F.slot_list_extend PySem.F.type_list_extend mt_extend (pe_var hN hv hd hcd) (tl_cons he tl_nil hs) rfl (by
    rw [star_eq hs]
    rfl) hline (star_eq hs _ _) rfl) fun s H Q ⟨σ, w, R, g, h⟩ => ?_
  rw [evalE] at h
  split at h
  · rename_i xs e0
    obtain ⟨l, es, ty⟩ := meth_recv g e0
    refine ⟨_, es, ty, ?_⟩
    refine TL.of g h fun ps σ1 vs H1 w1 wv g1 r1 t1 h1 => ?_
    split at h1
    · rename_i p ep
      split at h1
      · rename_i v p' em
        exact extend_end g1 t1 r1 es ep em h1
      · exact h1.elim
    · exact h1.elim
  · exact h.elim
end
end R

/-! A9: what loops walk; targets. -/
namespace R
open PySem PySem.Spec L2
open PyProof.Rows hiding St
def Its.len : Its → Nat
  | .l xs => xs.length
  | .r _ _ n => n
def Its.at? : Its → Nat → Option Dat
  | .l xs, i => xs[i]?
  | .r lo st n, i => if i < n then some (.int (lo + (i : Nat) * st)) else none
theorem Its.at_some {its : Its} {i : Nat} (h : i < its.len) : ∃ d, its.at? i = some d := by
  cases its with
  | l xs => exact ⟨xs[i]'h, List.getElem?_eq_getElem h⟩
  | r lo st n => exact ⟨_, if_pos h⟩
/-- J walks its while G stands -/
structure WalkD (K : PySem.W.Frag) (J : It) (its : Its) (G : Hp → List Addr → Prop) : Prop where
  ext : ∀ {H O H' O'}, Ext K H O H' O' → G H O → G H' O'
  goes : ∀ i H O, i < its.len → G H O → J.go i H
  stops : ∀ H O, G H O → J.stop its.len H
  yields : ∀ i H O v H' d, its.at? i = some d → G H O → (∀ b ∈ O, Mut (H b)) → J.yld i H v H' → (∀ b u, H b = some u → H' b = some u) ∧ RepD K H' O d v
/-- .. and the places P hold what they held -/
structure WalkP (K : PySem.W.Frag) (J : It) (its : Its) (P : List Addr) (G : Hp → List Addr → Prop) : Prop where
  ext : ∀ {H O H' O'}, Ext K H O H' O' → (∀ b ∈ P, ∀ o, H b = some o → H' b = some o) → G H O → G H' O'
  goes : ∀ i H O, i < its.len → G H O → J.go i H
  stops : ∀ H O, G H O → J.stop its.len H
  yields : ∀ i H O v H' d, its.at? i = some d → G H O → (∀ b ∈ O, Mut (H b)) → J.yld i H v H' → (∀ b u, H b = some u → H' b = some u) ∧ RepD K H' O d v
theorem WalkD.toP {K : PySem.W.Frag} {J : It} {its : Its} {G : Hp → List Addr → Prop} (w : WalkD K J its G) : WalkP K J its [] G := ⟨fun x _ h => w.ext x h, w.goes, w.stops, w.yields⟩
theorem PI.weak {X : Cx} {tg e : Expr} {t t' : TI} (h : PI X tg e t) (k : ∀ σ H R, t' σ H R → t σ H R) : PI X tg e t' := ⟨fun pins s σ H R I q => h.run pins s σ H R I (k σ H R q)⟩
theorem PG.weak {X : Cx} {e : Expr} {t t' : TG} (h : PG X e t) (k : ∀ v σ H Q, t' v σ H Q → t v σ H Q) : PG X e t' := ⟨fun pins s σ H v u Q I r q => h.run pins s σ H v u Q I r (k v σ H Q q)⟩
theorem PGs.weak {X : Cx} {es : List Expr} {t t' : TGs} (h : PGs X es t) (k : ∀ v σ H Q, t' v σ H Q → t v σ H Q) : PGs X es t' := ⟨fun pins s σ H v u Q I r q => h.run pins s σ H v u Q I r (k v σ H Q q)⟩
def iSeq (K : PySem.W.Frag) (tl : TE) : TI := fun σ H R => tl σ H fun x H1 => ∃ a, x = .ref a ∧ (((∃ xs, SqL K H1 a xs) ∧ R (Itl K a) H1) ∨ ((∃ xs, SqT K H1 a xs) ∧ R (Itt K a) H1))
theorem pi_seq {X : Cx} {tg l : Expr} {tl : TE} (hl : PE X l tl) : PI X tg l (iSeq X.K tl) := by
  refine ⟨fun pins s σ H R I h => ?_⟩
  refine thn (hl.run pins s σ H _ I h) fun v s1 ⟨x, H1, I1, r1, q1⟩ => ?_
  obtain ⟨a, e, q⟩ := q1
  subst e
  cases r1
  rcases q with ⟨⟨xs, hq⟩, q⟩ | ⟨⟨xs, hq⟩, q⟩
  · obtain ⟨its, rv, p, hz⟩ := I1.list hq
    refine wpAny_pyIter_list p.isList ?_
    refine ⟨s1.heap.objs.size, [s1.heap.objs.size], _, _, H1, rfl, I1.kept (t' := s1.toks) fun b o e => Heap.get?_push_of_some _ e, turn_list a _, ⟨_, Heap.get?_push_size _ rfl, rfl, rfl⟩, fun b hb => ?_, q⟩
    have e : b = s1.heap.objs.size := by simpa using hb
    subst e
    exact I1.fpOk (Nat.le_refl _) (I1.hok.fresh (Nat.le_refl _))
  · obtain ⟨its, rv, p, hz⟩ := I1.tuple hq
    refine wpAny_pyIter_tuple (show s1.heap.IsTuple a its.toArray from p) ?_
    refine ⟨s1.heap.objs.size, [s1.heap.objs.size], _, _, H1, rfl, I1.kept (t' := s1.toks) fun b o e => Heap.get?_push_of_some _ e, turn_tuple a _, ⟨_, Heap.get?_push_size _ rfl, rfl, rfl⟩, fun b hb => ?_, q⟩
    have e : b = s1.heap.objs.size := by simpa using hb
    subst e
    exact I1.fpOk (Nat.le_refl _) (I1.hok.fresh (Nat.le_refl _))
section
variable {K : PySem.W.Frag} {W : WX} {C : CF} {H H1 H2 H' : Hp} {s : St} {w w1 w2 R wv wv2 O O' : List Addr} {σ σ1 σ2 : Sto} {Q : VK}
theorem Ext.new (k : ∀ b u, H b = some u → H' b = some u) (mu : ∀ b ∈ O, Mut (H b)) : Ext K H O H' O := (Step.same (w := []) k).ext (fun _ h => by cases h) (fun _ h => by cases h) fun _ h => .inl h
theorem walk_l {a : Addr} {ds : List Dat} {d : Dat} (hd : d = .lst ds ∨ d = .scr ds) : WalkD K (Itl K a) (.l ds) fun H O => RepD K H O d (.ref a) := by
  have sq : ∀ H O, RepD K H O d (.ref a) → ∃ vs, SqL K H a vs ∧ RepDs K H O ds vs := fun H O h => by
    rcases hd with rfl | rfl
    · rw [RepD] at h
      obtain ⟨a', vs, e, _, q, r⟩ := h
      cases e
      exact ⟨vs, .inl (.inl q), r⟩
    · rw [RepD] at h
      obtain ⟨a', vs, e, q, r⟩ := h
      cases e
      exact ⟨vs, q.sq, r⟩
  refine ⟨fun x h => RepD.ext x _ _ h, fun i H O hi h => ?_, fun H O h => ?_, fun i H O v H' x hx h _ y => ?_⟩
  · obtain ⟨vs, q, r⟩ := sq H O h
    obtain ⟨v, hv, _⟩ := r.get (List.getElem?_eq_getElem hi)
    exact ⟨vs, v, q, hv⟩
  · obtain ⟨vs, q, r⟩ := sq H O h
    exact ⟨vs, q, Nat.le_of_eq r.length⟩
  · obtain ⟨vs, q, r⟩ := sq H O h
    obtain ⟨rfl, y⟩ := y
    obtain ⟨v', hv, rv⟩ := r.get hx
    have := y vs q
    rw [hv] at this
    cases this
    exact ⟨fun _ _ e => e, rv⟩
theorem walk_t {a : Addr} {ds : List Dat} : WalkD K (Itt K a) (.l ds) fun H O => RepD K H O (.tup ds) (.ref a) := by
  have sq : ∀ H O, RepD K H O (.tup ds) (.ref a) → ∃ vs, SqT K H a vs ∧ RepDs K H O ds vs := fun H O h => by
    rw [RepD] at h
    obtain ⟨a', vs, e, q, r⟩ := h
    cases e
    exact ⟨vs, q, r⟩
  refine ⟨fun x h => RepD.ext x _ _ h, fun i H O hi h => ?_, fun H O h => ?_, fun i H O v H' x hx h _ y => ?_⟩
  · obtain ⟨vs, q, r⟩ := sq H O h
    obtain ⟨v, hv, _⟩ := r.get (List.getElem?_eq_getElem hi)
    exact ⟨vs, v, q, hv⟩
  · obtain ⟨vs, q, r⟩ := sq H O h
    exact ⟨vs, q, Nat.le_of_eq r.length⟩
  · obtain ⟨vs, q, r⟩ := sq H O h
    obtain ⟨rfl, y⟩ := y
    obtain ⟨v', hv, rv⟩ := r.get hx
    have := y vs q
    rw [hv] at this
    cases this
    exact ⟨fun _ _ e => e, rv⟩
/-- a pair just made -/
theorem RepD.pair {T : Addr} {x y : V} {d e : Dat} (hT : H T = none) (mu : ∀ b ∈ O, Mut (H b)) (hx : RepD K H O d x) (hy : RepD K H O e y) :
    (∀ b u, H b = some u → upd H T (.tup [x, y]) b = some u) ∧ RepD K (upd H T (.tup [x, y])) O (.tup [d, e]) (.ref T) := by
  have k := upd_keep (o := .tup [x, y]) hT
  refine ⟨k, ?_⟩
  have ex := Ext.new (K := K) (O := O) k mu
  rw [RepD]
  refine ⟨T, [x, y], rfl, .inl (.inl upd_same), ?_⟩
  rw [RepDs]
  refine ⟨x, [y], rfl, RepD.ext ex _ _ hx, ?_⟩
  rw [RepDs]
  exact ⟨y, [], rfl, RepD.ext ex _ _ hy, by rw [RepDs]⟩
theorem enumD_at : ∀ (xs : List Dat) (n i : Nat), (enumD n xs)[i]? = (xs[i]?).map fun x => .tup [.int ((n + i : Nat) : Int), x]
  | [], n, i => by simp [enumD]
  | x :: xs, n, 0 => by simp [enumD]
  | x :: xs, n, i + 1 => by
    rw [enumD, List.getElem?_cons_succ, List.getElem?_cons_succ, enumD_at xs (n + 1) i]
    rw [show n + 1 + i = n + (i + 1) from by omega]
theorem enumD_len : ∀ (xs : List Dat) (n : Nat), (enumD n xs).length = xs.length
  | [], n => rfl
  | x :: xs, n => by rw [enumD, List.length_cons, List.length_cons, enumD_len xs]
theorem zipD_at : ∀ (xs ys : List Dat) (i : Nat) (d : Dat), (zipD xs ys)[i]? = some d → ∃ x y, xs[i]? = some x ∧ ys[i]? = some y ∧ d = .tup [x, y]
  | [], _, i, d, h => by simp [zipD] at h
  | x :: xs, [], i, d, h => by simp [zipD] at h
  | x :: xs, y :: ys, 0, d, h => by
    simp [zipD] at h
    exact ⟨x, y, rfl, rfl, h.symm⟩
  | x :: xs, y :: ys, i + 1, d, h => by
    rw [zipD, List.getElem?_cons_succ] at h
    obtain ⟨a, b, e1, e2, e3⟩ := zipD_at xs ys i d h
    exact ⟨a, b, by simpa using e1, by simpa using e2, e3⟩
theorem zipD_len : ∀ (xs ys : List Dat), (zipD xs ys).length = min xs.length ys.length
  | [], ys => by simp [zipD]
  | x :: xs, [] => by simp [zipD]
  | x :: xs, y :: ys => by rw [zipD, List.length_cons, zipD_len xs ys, List.length_cons, List.length_cons]; omega
theorem lstD_sq {d : Dat} {ds : List Dat} {v : V} (e : lstD d = some ds) (h : RepD K H O d v) : ∃ a vs, v = .ref a ∧ SqL K H a vs ∧ RepDs K H O ds vs := by
  cases d with
  | lst xs =>
    cases e
    rw [RepD] at h
    obtain ⟨a, vs, e, _, q, r⟩ := h
    exact ⟨a, vs, e, .inl (.inl q), r⟩
  | scr xs =>
    cases e
    rw [RepD] at h
    obtain ⟨a, vs, e, q, r⟩ := h
    exact ⟨a, vs, e, q.sq, r⟩
  | _ => cases e
theorem walk_en {a : Addr} {ds : List Dat} {d : Dat} (hd : lstD d = some ds) : WalkD K (Ite K a) (.l (enumD 0 ds)) fun H O => RepD K H O d (.ref a) := by
  refine ⟨fun x h => RepD.ext x _ _ h, fun i H O hi h => ?_, fun H O h => ?_, fun i H O v H' x hx h mu y => ?_⟩
  · obtain ⟨_, vs, e, q, r⟩ := lstD_sq hd h
    cases e
    have hi' : i < ds.length := by simpa [Its.len, enumD_len] using hi
    obtain ⟨v, hv, _⟩ := r.get (List.getElem?_eq_getElem hi')
    exact ⟨vs, v, q, hv⟩
  · obtain ⟨_, vs, e, q, r⟩ := lstD_sq hd h
    cases e
    refine ⟨vs, q, ?_⟩
    rw [r.length, Its.len, enumD_len]
    exact Nat.le_refl _
  · obtain ⟨_, vs, e, q, r⟩ := lstD_sq hd h
    cases e
    obtain ⟨T, x', rfl, hT, rfl, y⟩ := y
    rw [Its.at?, enumD_at] at hx
    cases ex : ds[i]? with
    | none => rw [ex] at hx; cases hx
    | some z =>
      rw [ex] at hx
      cases hx
      obtain ⟨v', hv, rv⟩ := r.get ex
      have := y vs q
      rw [hv] at this
      cases this
      refine RepD.pair hT mu ?_ rv
      rw [RepD]
      simp
theorem walk_enT {a : Addr} {ds : List Dat} : WalkD K (IteT K a) (.l (enumD 0 ds)) fun H O => RepD K H O (.tup ds) (.ref a) := by
  have sq : ∀ {H O}, RepD K H O (.tup ds) (.ref a) → ∃ vs, SqT K H a vs ∧ RepDs K H O ds vs := fun {H O} h => by
    rw [RepD] at h
    obtain ⟨_, vs, e, q, r⟩ := h
    cases e
    exact ⟨vs, q, r⟩
  refine ⟨fun x h => RepD.ext x _ _ h, fun i H O hi h => ?_, fun H O h => ?_, fun i H O v H' x hx h mu y => ?_⟩
  · obtain ⟨vs, q, r⟩ := sq h
    have hi' : i < ds.length := by simpa [Its.len, enumD_len] using hi
    obtain ⟨v, hv, _⟩ := r.get (List.getElem?_eq_getElem hi')
    exact ⟨vs, v, q, hv⟩
  · obtain ⟨vs, q, r⟩ := sq h
    exact ⟨vs, q, by rw [r.length, Its.len, enumD_len]; exact Nat.le_refl _⟩
  · obtain ⟨vs, q, r⟩ := sq h
    obtain ⟨T, x', rfl, hT, rfl, y⟩ := y
    rw [Its.at?, enumD_at] at hx
    cases ex : ds[i]? with
    | none => rw [ex] at hx; cases hx
    | some z =>
      rw [ex] at hx
      cases hx
      obtain ⟨v', hv, rv⟩ := r.get ex
      have := y vs q
      rw [hv] at this
      cases this
      refine RepD.pair hT mu ?_ rv
      rw [RepD]
      simp
theorem walk_z {a b : Addr} {ds es : List Dat} {d e : Dat} (hd : lstD d = some ds) (he : lstD e = some es) : WalkD K (Itz K a b) (.l (zipD ds es)) fun H O => RepD K H O d (.ref a) ∧ RepD K H O e (.ref b) := by
  refine ⟨fun x h => ⟨RepD.ext x _ _ h.1, RepD.ext x _ _ h.2⟩, fun i H O hi h => ?_, fun H O h => ?_, fun i H O v H' x hx h mu y => ?_⟩
  · obtain ⟨_, vs, e, q, r⟩ := lstD_sq hd h.1
    cases e
    obtain ⟨_, us, e, q', r'⟩ := lstD_sq he h.2
    cases e
    have hi' : i < min ds.length es.length := by simpa [Its.len, zipD_len] using hi
    obtain ⟨v, hv, _⟩ := r.get (List.getElem?_eq_getElem (show i < ds.length by omega))
    obtain ⟨u, hu, _⟩ := r'.get (List.getElem?_eq_getElem (show i < es.length by omega))
    exact ⟨vs, us, v, u, q, q', hv, hu⟩
  · obtain ⟨_, vs, e, q, r⟩ := lstD_sq hd h.1
    cases e
    obtain ⟨_, us, e, q', r'⟩ := lstD_sq he h.2
    cases e
    refine ⟨vs, us, q, q', ?_⟩
    rw [r.length, r'.length, Its.len, zipD_len]
    omega
  · obtain ⟨_, vs, e, q, r⟩ := lstD_sq hd h.1
    cases e
    obtain ⟨_, us, e, q', r'⟩ := lstD_sq he h.2
    cases e
    obtain ⟨T, x1, y1, rfl, hT, rfl, f1, f2⟩ := y
    obtain ⟨z1, z2, g1, g2, rfl⟩ := zipD_at ds es i x hx
    obtain ⟨v', hv, rv⟩ := r.get g1
    obtain ⟨u', hu, ru⟩ := r'.get g2
    have e1 := f1 vs q
    have e2 := f2 us q'
    rw [hv] at e1
    rw [hu] at e2
    cases e1
    cases e2
    exact RepD.pair hT mu rv ru
theorem walk_zt {a b : Addr} {ds es : List Dat} : WalkD K (RZ.ItzT K a b) (.l (zipD ds es)) fun H O => RepD K H O (.tup ds) (.ref a) ∧ RepD K H O (.tup es) (.ref b) := by
  have sq : ∀ {H O a ds}, RepD K H O (.tup ds) (.ref a) → ∃ vs, SqT K H a vs ∧ RepDs K H O ds vs := fun {H O a ds} h => by
    rw [RepD] at h
    obtain ⟨a', vs, e, q, r⟩ := h
    cases e
    exact ⟨vs, q, r⟩
  refine ⟨fun x h => ⟨RepD.ext x _ _ h.1, RepD.ext x _ _ h.2⟩, fun i H O hi h => ?_, fun H O h => ?_, fun i H O v H' x hx h mu y => ?_⟩
  · obtain ⟨vs, q, r⟩ := sq h.1
    obtain ⟨us, q', r'⟩ := sq h.2
    have hi' : i < min ds.length es.length := by simpa [Its.len, zipD_len] using hi
    obtain ⟨v, hv, _⟩ := r.get (List.getElem?_eq_getElem (show i < ds.length by omega))
    obtain ⟨u, hu, _⟩ := r'.get (List.getElem?_eq_getElem (show i < es.length by omega))
    exact ⟨vs, us, v, u, q, q', hv, hu⟩
  · obtain ⟨vs, q, r⟩ := sq h.1
    obtain ⟨us, q', r'⟩ := sq h.2
    refine ⟨vs, us, q, q', ?_⟩
    rw [r.length, r'.length, Its.len, zipD_len]
    omega
  · obtain ⟨vs, q, r⟩ := sq h.1
    obtain ⟨us, q', r'⟩ := sq h.2
    obtain ⟨T, x1, y1, rfl, hT, rfl, f1, f2⟩ := y
    obtain ⟨z1, z2, g1, g2, rfl⟩ := zipD_at ds es i x hx
    obtain ⟨v', hv, rv⟩ := r.get g1
    obtain ⟨u', hu, ru⟩ := r'.get g2
    have e1 := f1 vs q
    have e2 := f2 us q'
    rw [hv] at e1
    rw [hu] at e2
    cases e1
    cases e2
    exact RepD.pair hT mu rv ru
theorem walk_rl {a : Addr} {ds : List Dat} {d : Dat} (hd : lstD d = some ds) : WalkD K (Itv K a ds.length) (.l ds.reverse) fun H O => RepD K H O d (.ref a) := by
  refine ⟨fun x h => RepD.ext x _ _ h, fun i H O hi h => ?_, fun H O h => ?_, fun i H O v H' x hx h mu y => ?_⟩
  · obtain ⟨_, vs, e, q, r⟩ := lstD_sq hd h
    cases e
    have hi' : i < ds.length := by simpa [Its.len] using hi
    obtain ⟨v, hv, _⟩ := r.get (List.getElem?_eq_getElem (show ds.length - 1 - i < ds.length by omega))
    exact ⟨hi', vs, v, q, hv⟩
  · show ds.length ≤ _
    simp [Its.len]
  · obtain ⟨_, vs, e, q, r⟩ := lstD_sq hd h
    cases e
    obtain ⟨rfl, y⟩ := y
    have hx' : ds.reverse[i]? = some x := hx
    have hi : i < ds.length := by
      have := (List.getElem?_eq_some_iff.mp hx').1
      simpa using this
    rw [List.getElem?_reverse hi] at hx'
    obtain ⟨v', hv, rv⟩ := r.get hx'
    have := y vs q
    rw [hv] at this
    cases this
    exact ⟨fun _ _ e => e, rv⟩
theorem walk_rt {a : Addr} {ds : List Dat} : WalkD K (RT.ItvT K a ds.length) (.l ds.reverse) fun H O => RepD K H O (.tup ds) (.ref a) := by
  have sq : ∀ {H O}, RepD K H O (.tup ds) (.ref a) → ∃ vs, SqT K H a vs ∧ RepDs K H O ds vs := fun {H O} h => by
    rw [RepD] at h
    obtain ⟨a', vs, e, q, r⟩ := h
    cases e
    exact ⟨vs, q, r⟩
  refine ⟨fun x h => RepD.ext x _ _ h, fun i H O hi h => ?_, fun H O h => ?_, fun i H O v H' x hx h mu y => ?_⟩
  · obtain ⟨vs, q, r⟩ := sq h
    have hi' : i < ds.length := by simpa [Its.len] using hi
    obtain ⟨v, hv, _⟩ := r.get (List.getElem?_eq_getElem (show ds.length - 1 - i < ds.length by omega))
    exact ⟨hi', vs, v, q, hv⟩
  · show ds.length ≤ _
    simp [Its.len]
  · obtain ⟨vs, q, r⟩ := sq h
    obtain ⟨rfl, y⟩ := y
    have hx' : ds.reverse[i]? = some x := hx
    have hi : i < ds.length := by
      have := (List.getElem?_eq_some_iff.mp hx').1
      simpa using this
    rw [List.getElem?_reverse hi] at hx'
    obtain ⟨v', hv, rv⟩ := r.get hx'
    have := y vs q
    rw [hv] at this
    cases this
    exact ⟨fun _ _ e => e, rv⟩
theorem walk_r {lo : Int} {n : Nat} : WalkD K (Itr lo n) (.r lo 1 n) fun _ _ => True := by
  refine ⟨fun _ _ => trivial, fun i H O hi _ => hi, fun H O _ => Nat.le_refl _, fun i H O v H' x hx _ _ y => ?_⟩
  obtain ⟨rfl, rfl⟩ := y
  simp only [Its.at?] at hx
  split at hx
  · cases hx
    exact ⟨fun _ _ e => e, by rw [RepD, Int.mul_one]⟩
  · cases hx
theorem walk_rc {lo c : Int} {n : Nat} : WalkD K (Itc lo c n) (.r lo c n) fun _ _ => True := by
  refine ⟨fun _ _ => trivial, fun i H O hi _ => hi, fun H O _ => Nat.le_refl _, fun i H O v H' x hx _ _ y => ?_⟩
  obtain ⟨rfl, rfl⟩ := y
  simp only [Its.at?] at hx
  split at hx
  · cases hx
    exact ⟨fun _ _ e => e, by rw [RepD]⟩
  · cases hx
theorem RepP.frz2 {p : PV} {v : V} (nd : (w ++ (wv ++ R)).Nodup) (r : RepP K H (w ++ (wv ++ R)) p v wv) : RepD K H (w ++ R) p.frz v :=
  r.frz _ _ _ fun b hb => ⟨by
    rcases List.mem_append.mp hb with q | q
    · exact List.mem_append_left _ q
    · exact List.mem_append_right _ (List.mem_append_right _ q), fun z => by
    rcases List.mem_append.mp hb with q | q
    · exact (List.nodup_append.mp nd).2.2 b q b (List.mem_append_left _ z) rfl
    · exact (List.nodup_append.mp (List.nodup_append.mp nd).2.1).2.2 b z b q rfl⟩
theorem Good.frzL {ps : List PV} {vs : List V} (g : Good K H σ s w (wv ++ R)) (r : RepPs K H (w ++ (wv ++ R)) ps vs wv) : Good K H σ s w R ∧ RepDs K H (w ++ R) (frzs ps) vs := by
  refine ⟨g.lessR (List.sublist_append_right _ _), RepPs.frz _ _ _ r fun b hb => ⟨?_, fun z => ?_⟩⟩
  · rcases List.mem_append.mp hb with q | q
    · exact List.mem_append_left _ q
    · exact List.mem_append_right _ (List.mem_append_right _ q)
  · have nd := g.nd
    rcases List.mem_append.mp hb with q | q
    · exact (List.nodup_append.mp nd).2.2 b q b (List.mem_append_left _ z) rfl
    · exact (List.nodup_append.mp (List.nodup_append.mp nd).2.1).2.2 b z b q rfl
variable (K W C) in
/-- the reading of a loop's source -/
def TIr (k : SK) (ss : List E) : TI := fun s H Rr => ∃ σ w R, Good K H σ s w R ∧ Out K W H s w R (fun ps σ' => ∃ its, itsOf k (frzs ps) = some its ∧ ∀ J G H1 w1, Good K H1 σ' s w1 R → Step w H w1 H1 → WalkD K J its G → G H1 (w1 ++ R) → Rr J H1) (evalEs C ss σ)
theorem evalEs_len : ∀ {es : List E} {σ : Sto} {ps : List PV} {σ' : Sto}, evalEs C es σ = .ok ps σ' → ps.length = es.length
  | [], σ, ps, σ', h => by
    rw [evalEs] at h
    cases h
    rfl
  | e :: es, σ, ps, σ', h => by
    rw [evalEs] at h
    cases e1 : evalE C e σ with
    | bad => rw [e1] at h; cases h
    | exc c fs σ1 => rw [e1] at h; cases h
    | ok p σ1 =>
      rw [e1, Res.bind_ok] at h
      cases e2 : evalEs C es σ1 with
      | bad => rw [e2] at h; cases h
      | exc c fs σ1 => rw [e2] at h; cases h
      | ok qs σ2 =>
        rw [e2, Res.bind_ok] at h
        cases h
        rw [List.length_cons, List.length_cons, evalEs_len e2]
/-- the arguments, given up -/
theorem TIr.args {k : SK} {ss : List E} {Rr : It → Hp → Prop} (h : TIr K W C k ss s H Rr) : TL K W C ss s H fun vs H1 => ∃ σ' w1 R xs its, Good K H1 σ' s w1 R ∧ RepDs K H1 (w1 ++ R) xs vs ∧ itsOf k xs = some its ∧ xs.length = ss.length ∧ ∀ J G, WalkD K J its G → G H1 (w1 ++ R) → Rr J H1 := by
  obtain ⟨σ, w, R, g, h⟩ := h
  refine ⟨σ, w, R, g, ?_⟩
  cases e1 : evalEs C ss σ with
  | ok ps σ1 =>
    rw [e1] at h
    rintro vs H1 ⟨w1, wv, g1, r1, t1⟩
    obtain ⟨its, e2, h⟩ := h
    obtain ⟨g2, r2⟩ := g1.frzL r1
    exact ⟨σ1, w1, R, _, its, g2, r2, e2, by rw [frzs_length]; exact evalEs_len e1, fun J G wd hg => h J G H1 w1 g2 (t1.less fun b hb => List.mem_append_left _ hb) wd hg⟩
  | exc c fs σ1 =>
    rw [e1] at h
    exact h
  | bad =>
    rw [e1] at h
    exact h
theorem RepDs.one {x : Dat} {xs : List Dat} {vs : List V} (h : RepDs K H O (x :: xs) vs) : ∃ v r, vs = v :: r ∧ RepD K H O x v ∧ RepDs K H O xs r := by
  rw [RepDs] at h
  exact h
theorem RepDs.nil' {vs : List V} (h : RepDs K H O [] vs) : vs = [] := by
  rw [RepDs] at h
  exact h
/-- one argument as a value -/
theorem TL.one {i : E} {Qb : List V → Hp → Prop} (h : TL K W C [i] s H Qb) : T K W C i s H fun v H1 => Qb [v] H1 := by
  obtain ⟨σ, w, R, g, h⟩ := h
  refine ⟨σ, w, R, g, ?_⟩
  simp only [evalEs, Res.bind_ok] at h
  cases e1 : evalE C i σ with
  | ok p σ1 =>
    rw [e1] at h
    rintro v H1 ⟨w1, wv, g1, r1, t1⟩
    refine h [v] H1 ⟨w1, wv, g1, ?_, t1⟩
    rw [RepPs]
    exact ⟨v, [], wv, [], rfl, by simp, r1, by rw [RepPs]; exact ⟨rfl, rfl⟩⟩
  | exc c fs σ1 =>
    rw [e1] at h
    exact h
  | bad =>
    rw [e1] at h
    exact h
variable {X : Cx}
theorem ti_seq {tg e : Expr} {i : E} (he : PE X e (T X.K W C i)) : PI X tg e (TIr X.K W C .seq [i]) := PI.weak (pi_seq he) fun s H Rr h => by
  obtain ⟨σ0, w0, R0, g0, h0⟩ := h.args.one
  refine ⟨σ0, w0, R0, g0, ?_⟩
  cases e1 : evalE C i σ0 with
  | bad => rw [e1] at h0; exact h0
  | exc c fs σ1 => rw [e1] at h0; exact h0
  | ok p σ1 =>
    rw [e1] at h0
    intro v H1 f1
    obtain ⟨σ', w1, R, xs, its, g, r, ei, _, k⟩ := h0 v H1 f1
    have ei' : itsOf .seq xs = some its := ei
    match xs, r, ei' with
    | [x], r, ei' =>
      obtain ⟨v', _, e2, rx, rn⟩ := r.one
      cases rn.nil'
      cases e2
      have ei2 : (seqD x).map Its.l = some its := ei'
      cases x with
      | tup ds =>
        cases ei2
        have rx' := rx
        rw [RepD] at rx
        obtain ⟨a, vs, rfl, q, rs⟩ := rx
        exact ⟨a, rfl, .inr ⟨⟨vs, q⟩, k _ _ walk_t rx'⟩⟩
      | lst ds =>
        cases ei2
        have rx' := rx
        rw [RepD] at rx
        obtain ⟨a, vs, rfl, n, q, rs⟩ := rx
        exact ⟨a, rfl, .inl ⟨⟨vs, .inl (.inl q)⟩, k _ _ (walk_l (.inl rfl)) rx'⟩⟩
      | scr ds =>
        cases ei2
        have rx' := rx
        rw [RepD] at rx
        obtain ⟨a, vs, rfl, q, rs⟩ := rx
        exact ⟨a, rfl, .inl ⟨⟨vs, q.sq⟩, k _ _ (walk_l (.inr rfl)) rx'⟩⟩
      | _ => cases ei2
    | [], _, ei' => cases ei'
    | _ :: _ :: _, _, ei' => cases ei'
theorem TL.weak {ss : List E} {Qa Qb : List V → Hp → Prop} (h : TL K W C ss s H Qa) (k : ∀ vs H1, Qa vs H1 → Qb vs H1) : TL K W C ss s H Qb := by
  obtain ⟨σ, w, R, g, h⟩ := h
  refine ⟨σ, w, R, g, ?_⟩
  cases e1 : evalEs C ss σ with
  | ok ps σ1 =>
    rw [e1] at h
    exact fun vs H1 f => k vs H1 (h vs H1 f)
  | exc c fs σ1 =>
    rw [e1] at h
    exact h
  | bad =>
    rw [e1] at h
    exact h
theorem T.weak {i : E} {Qa Qb : VK} (h : T K W C i s H Qa) (k : ∀ v H1, Qa v H1 → Qb v H1) : T K W C i s H Qb := by
  obtain ⟨σ, w, R, g, h⟩ := h
  refine ⟨σ, w, R, g, ?_⟩
  cases e1 : evalE C i σ with
  | ok ps σ1 =>
    rw [e1] at h
    exact fun vs H1 f => k vs H1 (h vs H1 f)
  | exc c fs σ1 =>
    rw [e1] at h
    exact h
  | bad =>
    rw [e1] at h
    exact h
theorem RepD.intV {i : Int} {v : V} (h : RepD K H O (.int i) v) : v = .int i := by
  rw [RepD] at h
  exact h
theorem itsOf_range {xs : List Dat} {its : Its} (h : itsOf .range xs = some its) : (∃ j, xs = [.int j] ∧ inR j = true ∧ its = .r 0 1 j.toNat) ∨ (∃ i j, xs = [.int i, .int j] ∧ inR i = true ∧ inR j = true ∧ its = .r i 1 (j - i).toNat) ∨ ∃ i j, xs = [.int i, .int j, .int (-1)] ∧ inR i = true ∧ inR j = true ∧ its = .r i (-1) (i - j).toNat := by
  have h' : itsRange xs = some its := h
  unfold itsRange at h'
  split at h'
  · split at h'
    · rename_i c
      cases h'
      exact .inl ⟨_, rfl, c, rfl⟩
    · cases h'
  · split at h'
    · rename_i c
      cases h'
      rw [Bool.and_eq_true] at c
      exact .inr (.inl ⟨_, _, rfl, c.1, c.2, rfl⟩)
    · cases h'
  · split at h'
    · rename_i c
      cases h'
      rw [Bool.and_eq_true] at c
      exact .inr (.inr ⟨_, _, rfl, c.1, c.2, rfl⟩)
    · cases h'
  · cases h'
theorem ti_range1 {tg e : Expr} {i : E} {p pos : Pos} (hg : Gl X "range") (hm : X.mg "range" = none) (he : PA X [e] (TL X.K W C [i])) (hs : notStar e = true) : PI X tg (.Call (.Name "range" p) [e] [] pos) (TIr X.K W C .range [i]) :=
  PI.weak (pi_range1 hg hm he (star_eq hs [] X.env)) fun s H Rr h => h.args.weak fun vs H1 ⟨σ', w1, R, xs, its, g, r, ei, el, k⟩ => by
    rcases itsOf_range ei with ⟨j, rfl, c, rfl⟩ | ⟨i, j, rfl, c, d, rfl⟩ | ⟨i, j, rfl, c, d, rfl⟩
    · obtain ⟨v, r1, rfl, q, rn⟩ := r.one
      cases rn.nil'
      cases q.intV
      exact ⟨j, rfl, (inR_ok c).1, (inR_ok c).2, k _ _ walk_r trivial⟩
    · simp at el
    · simp at el
theorem ti_range2 {tg e e2 : Expr} {i i2 : E} {p pos : Pos} (hg : Gl X "range") (hm : X.mg "range" = none) (he : PA X [e, e2] (TL X.K W C [i, i2])) (hs : notStar e = true) (hs2 : notStar e2 = true) : PI X tg (.Call (.Name "range" p) [e, e2] [] pos) (TIr X.K W C .range [i, i2]) :=
  PI.weak (pi_range2 hg hm he (by rw [star_eq hs, star_eq hs2]; rfl) (star_eq hs2 [] X.env)) fun s H Rr h => h.args.weak fun vs H1 ⟨σ', w1, R, xs, its, g, r, ei, el, k⟩ => by
    rcases itsOf_range ei with ⟨j, rfl, c, rfl⟩ | ⟨i, j, rfl, c, d, rfl⟩ | ⟨i, j, rfl, c, d, rfl⟩
    · simp at el
    · obtain ⟨v, r1, rfl, q, rn⟩ := r.one
      obtain ⟨v', r1, rfl, q', rn⟩ := rn.one
      cases rn.nil'
      cases q.intV
      cases q'.intV
      exact ⟨i, j, rfl, ⟨(inR_ok c).1, (inR_ok c).2, (inR_ok d).1, (inR_ok d).2⟩, k _ _ walk_r trivial⟩
    · simp at el
theorem ti_range3 {tg e e2 e3 : Expr} {i i2 i3 : E} {p pos : Pos} (hg : Gl X "range") (hm : X.mg "range" = none) (he : PA X [e, e2, e3] (TL X.K W C [i, i2, i3])) (hs : notStar e = true) (hs2 : [e2, e3].all notStar = true) : PI X tg (.Call (.Name "range" p) [e, e2, e3] [] pos) (TIr X.K W C .range [i, i2, i3]) :=
  PI.weak (pi_range3 hg hm he (star_eq hs _ _) (noStars hs2)) fun s H Rr h => h.args.weak fun vs H1 ⟨σ', w1, R, xs, its, g, r, ei, el, k⟩ => by
    rcases itsOf_range ei with ⟨j, rfl, c, rfl⟩ | ⟨i, j, rfl, c, d, rfl⟩ | ⟨i, j, rfl, c, d, rfl⟩
    · simp at el
    · simp at el
    · obtain ⟨v, r1, rfl, q, rn⟩ := r.one
      obtain ⟨v', r1, rfl, q', rn⟩ := rn.one
      obtain ⟨v'', r1, rfl, q'', rn⟩ := rn.one
      cases rn.nil'
      cases q.intV
      cases q'.intV
      cases q''.intV
      exact ⟨i, j, -1, (i - j).toNat, rfl, RgC.neg (inR_ok c).1 (inR_ok c).2 (inR_ok d).1 (inR_ok d).2, k _ _ walk_rc trivial⟩
theorem ti_enum {elts : List Expr} {kk : Nat} {tpos : Pos} {e : Expr} {i : E} {p pos : Pos} (hg : Gl X "enumerate") (hm : X.mg "enumerate" = none) (he : PA X [e] (TL X.K W C [i])) (hs : notStar e = true) : PI X (.Tuple elts kk tpos) (.Call (.Name "enumerate" p) [e] [] pos) (TIr X.K W C .enum [i]) :=
  PI.weak (pi_enumA hg hm he (star_eq hs [] X.env)) fun s H Rr h => h.args.weak fun vs H1 ⟨σ', w1, R, xs, its, g, r, ei, el, k⟩ => by
    match xs, r, ei, el with
    | [x], r, ei, _ =>
      obtain ⟨v, r1, rfl, q, rn⟩ := r.one
      cases rn.nil'
      have ei2 : (seqD x).map (fun xs => Its.l (enumD 0 xs)) = some its := ei
      have viaL : ∀ ds, lstD x = some ds → Its.l (enumD 0 ds) = its → ∃ a xs, ([v] : List V) = [.ref a] ∧ ((SqL X.K H1 a xs ∧ Rr (Ite X.K a) H1) ∨ (SqT X.K H1 a xs ∧ Rr (IteT X.K a) H1)) := fun ds e1 ei3 => by
        subst ei3
        obtain ⟨a, vs, rfl, sq, _⟩ := lstD_sq e1 q
        exact ⟨a, vs, rfl, .inl ⟨sq, k _ _ (walk_en e1) q⟩⟩
      cases x with
      | lst ds => exact viaL ds rfl (Option.some.inj ei2)
      | scr ds => exact viaL ds rfl (Option.some.inj ei2)
      | tup ds =>
        have ei3 : Its.l (enumD 0 ds) = its := Option.some.inj ei2
        subst ei3
        have q0 := q
        rw [RepD] at q0
        obtain ⟨a, vs, rfl, sq, _⟩ := q0
        exact ⟨a, vs, rfl, .inr ⟨sq, k _ _ walk_enT q⟩⟩
      | _ => cases ei2
    | [], _, _, el => simp at el
    | _ :: _ :: _, _, _, el => simp at el
theorem ti_zip {elts : List Expr} {kk : Nat} {tpos : Pos} {e e2 : Expr} {i i2 : E} {p pos : Pos} (hg : Gl X "zip") (hm : X.mg "zip" = none) (he : PA X [e, e2] (TL X.K W C [i, i2])) (hs : notStar e = true) (hs2 : [e2].all notStar = true) : PI X (.Tuple elts kk tpos) (.Call (.Name "zip" p) [e, e2] [] pos) (TIr X.K W C .zip [i, i2]) :=
  PI.weak (RZ.pi_zipA hg hm he (star_eq hs _ _) (noStars hs2)) fun s H Rr h => h.args.weak fun vs H1 ⟨σ', w1, R, xs, its, g, r, ei, el, k⟩ => by
    match xs, r, ei, el with
    | [x, y], r, ei, _ =>
      obtain ⟨v, r1, rfl, q, rn⟩ := r.one
      obtain ⟨v', r1, rfl, q', rn⟩ := rn.one
      cases rn.nil'
      have case2 : ((lstD x).bind fun xs => (lstD y).map fun ys => Its.l (zipD xs ys)) = some its → ∃ a b xs ys, ([v, v'] : List V) = [.ref a, .ref b] ∧ ((SqL X.K H1 a xs ∧ SqL X.K H1 b ys ∧ Rr (Itz X.K a b) H1) ∨ (SqT X.K H1 a xs ∧ SqT X.K H1 b ys ∧ Rr (RZ.ItzT X.K a b) H1)) := fun ei2 => by
        cases e1 : lstD x with
        | none => rw [e1] at ei2; cases ei2
        | some ds =>
          rw [e1] at ei2
          cases e2 : lstD y with
          | none => rw [e2] at ei2; cases ei2
          | some es =>
            rw [e2] at ei2
            cases ei2
            obtain ⟨a, vs, rfl, sq, _⟩ := lstD_sq e1 q
            obtain ⟨b, us, rfl, sq', _⟩ := lstD_sq e2 q'
            exact ⟨a, b, vs, us, rfl, .inl ⟨sq, sq', k _ _ (walk_z e1 e2) ⟨q, q'⟩⟩⟩
      have ei3 : itsZip x y = some its := ei
      unfold itsZip at ei3
      split at ei3
      · cases ei3
        have q0 := q
        have q0' := q'
        simp only [RepD] at q q'
        obtain ⟨a, vs, rfl, sq, _⟩ := q
        obtain ⟨b, us, rfl, sq', _⟩ := q'
        exact ⟨a, b, vs, us, rfl, .inr ⟨sq, sq', k _ _ walk_zt ⟨q0, q0'⟩⟩⟩
      · exact case2 ei3
    | [], _, _, el => simp at el
    | [_], _, _, el => simp at el
    | _ :: _ :: _ :: _, _, _, el => simp at el
theorem ti_rev {tg : Expr} {e : Expr} {i : E} {p pos : Pos} (hg : Gl X "reversed") (hm : X.mg "reversed" = none) (he : PE X e (T X.K W C i)) (hs : notStar e = true) : PI X tg (.Call (.Name "reversed" p) [e] [] pos) (TIr X.K W C .rev [i]) :=
  PI.weak (RT.pi_revA hg hm he (star_eq hs _ _)) fun s H Rr h => h.args.one.weak fun v H1 ⟨σ', w1, R, xs, its, g, r, ei, el, k⟩ => by
    match xs, r, ei, el with
    | [x], r, ei, _ =>
      obtain ⟨v, r1, e1, q, rn⟩ := r.one
      cases rn.nil'
      cases e1
      have ei2 : (seqD x).map (fun xs => Its.l xs.reverse) = some its := ei
      cases x with
      | tup ds =>
        cases ei2
        have q0 := q
        rw [RepD] at q
        obtain ⟨a, vs, rfl, sq, rs⟩ := q
        refine ⟨a, vs, rfl, .inr ⟨sq, ?_⟩⟩
        rw [rs.length]
        exact k _ _ walk_rt q0
      | lst ds =>
        cases ei2
        obtain ⟨a, vs, rfl, sq, rs⟩ := lstD_sq (ds := ds) rfl q
        refine ⟨a, vs, rfl, .inl ⟨sq, ?_⟩⟩
        rw [rs.length]
        exact k _ _ (walk_rl rfl) q
      | scr ds =>
        cases ei2
        obtain ⟨a, vs, rfl, sq, rs⟩ := lstD_sq (ds := ds) rfl q
        refine ⟨a, vs, rfl, .inl ⟨sq, ?_⟩⟩
        rw [rs.length]
        exact k _ _ (walk_rl rfl) q
      | _ => cases ei2
    | [], _, _, el => simp at el
    | _ :: _ :: _, _, _, el => simp at el

/-! ### targets -/
theorem Good.set {i : Nat} {p : PV} {v : V} (g : Good K H σ s w (wv ++ R)) (r : RepP K H (w ++ (wv ++ R)) p v wv) : ∃ w', Good K H (σ.set i (some p)) (s.set i (some v)) w' R ∧ ∀ b ∈ w', b ∈ w ++ wv := by
  by_cases hi : i < s.length
  · obtain ⟨wd, w1, h1, pm⟩ := g.rep.drop i (some v)
    have h1' : RepS K H (w ++ (wv ++ R)) ((σ.set i (some p)).set i none) (s.set i (some v)) w1 := by
      rw [List.set_set]
      exact h1
    have h2 := h1'.put (p := p) (v := v) (by rw [List.getElem?_set_self hi]) r
    rw [List.set_set] at h2
    have pmO : (w ++ (wv ++ R)).Perm (wd ++ ((wv ++ w1) ++ R)) := by
      refine (List.Perm.append_right _ pm).trans ?_
      rw [List.append_assoc]
      refine List.Perm.append_left wd ?_
      rw [← List.append_assoc]
      exact List.Perm.append_right R List.perm_append_comm
    have mem : ∀ b, b ∈ (wv ++ w1) ++ R → b ∈ w ++ (wv ++ R) := fun b hb => pmO.mem_iff.mpr (List.mem_append_right _ hb)
    refine ⟨wv ++ w1, ⟨h2.ext (Ext.less mem) fun _ _ _ q => q, (List.nodup_append.mp (pmO.nodup_iff.mp g.nd)).2.1, fun b hb => g.mu b (mem b hb)⟩, fun b hb => ?_⟩
    rcases List.mem_append.mp hb with q | q
    · exact List.mem_append_right _ q
    · exact List.mem_append_left _ (pm.mem_iff.mpr (List.mem_append_right _ q))
  · have hl := g.rep.length
    rw [List.set_eq_of_length_le (by omega), List.set_eq_of_length_le (by omega)]
    exact ⟨w, g.lessR (List.sublist_append_right _ _), fun b hb => List.mem_append_left _ hb⟩
variable (K) in
def TGt (A : List Nat) (t : Tg) : TG := fun v s H Q => ∃ p σ w R wv, Good K H σ s w (wv ++ R) ∧ RepP K H (w ++ (wv ++ R)) p v wv ∧ ∃ σ', asg t p σ = some σ' ∧ ∀ s' w', Good K H σ' s' w' R → (∀ b ∈ w', b ∈ w ++ wv) → (∀ r, r ∉ A → s'[r]? = s[r]?) → Q s' H
variable (K) in
def TGl (A : List Nat) (ts : List Tg) : TGs := fun vs s H Q => ∃ ps σ w R wv, Good K H σ s w (wv ++ R) ∧ RepPs K H (w ++ (wv ++ R)) ps vs wv ∧ ∃ σ', asgs ts ps σ = some σ' ∧ ∀ s' w', Good K H σ' s' w' R → (∀ b ∈ w', b ∈ w ++ wv) → (∀ r, r ∉ A → s'[r]? = s[r]?) → Q s' H
theorem tg_name {A : List Nat} {i : Nat} {x : Str} {pos : Pos} (hN : X.N.Nodup) (hi : X.N[i]? = some x) (hx : Loc X.env.scope x ∧ (X.fn x = true ∨ X.env.scope.names.lookup x = some .local)) (hA : i ∈ A) : PG X (.Name x pos) (TGt X.K A (.n i)) :=
  PG.weak (pg_name hN hi hx.1 hx.2) fun v s H Q ⟨p, σ, w, R, wv, g, r, σ', e, k⟩ => by
    rw [asg] at e
    cases e
    obtain ⟨w', g', sub⟩ := g.set r
    exact k _ w' g' sub fun r hr => List.getElem?_set_ne fun z => hr (by rw [← z]; exact hA)
theorem tgl_nil {A : List Nat} : PGs X [] (TGl X.K A []) := PGs.weak pgs_nil fun vs s H Q ⟨ps, σ, w, R, wv, g, r, σ', e, k⟩ => by
  cases ps with
  | nil =>
    rw [RepPs] at r
    obtain ⟨rfl, rfl⟩ := r
    rw [asgs] at e
    cases e
    exact ⟨rfl, k s w (by simpa using g) (fun b hb => List.mem_append_left _ hb) fun _ _ => rfl⟩
  | cons p ps =>
    rw [asgs] at e
    cases e
    all_goals simp_all
theorem tgl_cons {A : List Nat} {e : Expr} {es : List Expr} {t : Tg} {ts : List Tg} (h1 : PG X e (TGt X.K A t)) (h2 : PGs X es (TGl X.K A ts)) (hs : (assignEach (e :: es) X.env).map (·.2) = assign e X.env :: (assignEach es X.env).map (·.2)) : PGs X (e :: es) (TGl X.K A (t :: ts)) :=
  PGs.weak (pgs_cons h1 h2 hs) fun vs s H Q ⟨ps, σ, w, R, wv, g, r, σ', e, k⟩ => by
    cases ps with
    | nil =>
      rw [asgs] at e
      cases e
      all_goals simp_all
    | cons p ps =>
      rw [asgs] at e
      rw [RepPs] at r
      obtain ⟨v, vr, w1, w2, rfl, rfl, rp, rps⟩ := r
      cases e1 : asg t p σ with
      | none => rw [e1] at e; cases e
      | some σ1 =>
        rw [e1] at e
        have e' : asgs ts ps σ1 = some σ' := e
        rw [List.append_assoc] at g rp rps
        refine ⟨v, vr, rfl, p, σ, w, w2 ++ R, w1, g, rp, σ1, e1, fun s1 w1' g1 sub1 fr1 => ?_⟩
        have mem : ∀ b, b ∈ w1' ++ (w2 ++ R) → b ∈ w ++ (w1 ++ (w2 ++ R)) := fun b hb => by
          rcases List.mem_append.mp hb with q | q
          · rcases List.mem_append.mp (sub1 b q) with q | q
            · exact List.mem_append_left _ q
            · exact List.mem_append_right _ (List.mem_append_left _ q)
          · exact List.mem_append_right _ (List.mem_append_right _ q)
        refine ⟨ps, σ1, w1', R, w2, g1, RepPs.ext (Ext.less mem) _ _ _ (fun _ _ _ q => q) rps, σ', e', fun s2 w2' g2 sub2 fr2 => ?_⟩
        refine k s2 w2' g2 (fun b hb => ?_) fun r hr => (fr2 r hr).trans (fr1 r hr)
        rcases List.mem_append.mp (sub2 b hb) with q | q
        · rcases List.mem_append.mp (sub1 b q) with q | q
          · exact List.mem_append_left _ q
          · exact List.mem_append_right _ (List.mem_append_left _ q)
        · exact List.mem_append_right _ (List.mem_append_right _ q)
theorem asgs_len : ∀ {ts : List Tg} {ps : List PV} {σ σ' : Sto}, asgs ts ps σ = some σ' → ps.length = ts.length
  | [], [], _, _, _ => rfl
  | [], _ :: _, _, _, h => by simp [asgs] at h
  | _ :: _, [], _, _, h => by simp [asgs] at h
  | t :: ts, p :: ps, σ, σ', h => by
    rw [asgs] at h
    cases e1 : asg t p σ with
    | none => rw [e1] at h; cases h
    | some σ1 =>
      rw [e1] at h
      rw [List.length_cons, List.length_cons, asgs_len (show asgs ts ps σ1 = some σ' from h)]
theorem tg_tup {A : List Nat} {es : List Expr} {k : Nat} {pos : Pos} {ts : List Tg} (hc : X.calm = true) (h : PGs X es (TGl X.K A ts)) (hn : (assignEach es X.env).length = ts.length) (hst : (assignEach es X.env).findIdx? (·.1) = none) : PG X (.Tuple es k pos) (TGt X.K A (.t ts)) :=
  PG.weak (pg_tup hc h hn hst) fun v s H Q ⟨p, σ, w, R, wv, g, r, σ', e, kk⟩ => by
    cases p with
    | d x =>
      rw [RepP] at r
      obtain ⟨rfl, r⟩ := r
      cases x with
      | tup xs =>
        rw [asg] at e
        rw [RepD] at r
        obtain ⟨a, vs, rfl, sq, rs⟩ := r
        refine ⟨a, vs, rfl, sq, ?_, xs.map .d, σ, w, R, [], g, rs.toP, σ', e, kk⟩
        have := asgs_len e
        rw [rs.length]
        simpa using this
      | _ => simp [asg] at e
    | tup xs =>
      rw [asg] at e
      rw [RepP] at r
      obtain ⟨a, vs, rfl, sq, rs⟩ := r
      refine ⟨a, vs, rfl, sq, ?_, xs, σ, w, R, wv, g, rs, σ', e, kk⟩
      rw [rs.length]
      exact asgs_len e
    | _ => simp [asg] at e
end
end R

/-! A10: comprehensions. -/
namespace R
open PySem PySem.Spec L2
open PyProof.Rows hiding St
/-! ### the turns, counted -/
def Its.goFrom (f : Dat → Sto → FR) : Its → Nat → Sto → FR
  | .l xs, i, σ => seqL f (xs.drop i) σ
  | .r lo st n, i, σ => seqR f st (n - i) (lo + (i : Nat) * st) σ
def Its.compFrom (f : Dat → Sto → Res (Option PV)) : Its → Nat → List PV → Sto → Res (List PV)
  | .l xs, i, acc, σ => compL f (xs.drop i) acc σ
  | .r lo st n, i, acc, σ => compR f st (n - i) (lo + (i : Nat) * st) acc σ
theorem Its.go_zero {f : Dat → Sto → FR} {its : Its} {σ : Sto} : its.go f σ = its.goFrom f 0 σ := by
  cases its with
  | l xs => rfl
  | r lo st n => simp [Its.go, Its.goFrom]
theorem Its.go_end {f : Dat → Sto → FR} {its : Its} {σ : Sto} : its.goFrom f its.len σ = .nx σ := by
  cases its with
  | l xs => simp [Its.goFrom, Its.len, seqL]
  | r lo st n => simp [Its.goFrom, Its.len, seqR]
theorem Its.go_step {f : Dat → Sto → FR} {its : Its} {σ : Sto} {i : Nat} {d : Dat} (h : its.at? i = some d) : its.goFrom f i σ = match f d σ with
    | .nx σ' => its.goFrom f (i + 1) σ'
    | .cont σ' => its.goFrom f (i + 1) σ'
    | .brk σ' => .nx σ'
    | z => z := by
  cases its with
  | l xs =>
    have h' : xs[i]? = some d := h
    obtain ⟨hi, e⟩ := List.getElem?_eq_some_iff.mp h'
    simp only [Its.goFrom]
    rw [List.drop_eq_getElem_cons hi, e, seqL]
    all_goals rfl
  | r lo st n =>
    simp only [Its.at?] at h
    split at h
    · rename_i hi
      cases h
      simp only [Its.goFrom]
      rw [show n - i = (n - (i + 1)) + 1 from by omega, seqR]
      have e : lo + (i : Nat) * st + st = lo + ((i + 1 : Nat) : Int) * st := by
        rw [Int.natCast_add, Int.add_mul]
        omega
      rw [e]
      all_goals rfl
    · cases h
theorem Its.comp_zero {f : Dat → Sto → Res (Option PV)} {its : Its} {σ : Sto} : its.comp f σ = its.compFrom f 0 [] σ := by
  cases its with
  | l xs => rfl
  | r lo st n => simp [Its.comp, Its.compFrom]
theorem Its.comp_end {f : Dat → Sto → Res (Option PV)} {its : Its} {acc : List PV} {σ : Sto} : its.compFrom f its.len acc σ = .ok acc σ := by
  cases its with
  | l xs => simp [Its.compFrom, Its.len, compL]
  | r lo st n => simp [Its.compFrom, Its.len, compR]
theorem Its.comp_step {f : Dat → Sto → Res (Option PV)} {its : Its} {acc : List PV} {σ : Sto} {i : Nat} {d : Dat} (h : its.at? i = some d) : its.compFrom f i acc σ = (f d σ).bind fun o σ' =>
    match o with
    | some v => if acc.length < sizeLine then its.compFrom f (i + 1) (acc ++ [v]) σ' else .bad
    | none => its.compFrom f (i + 1) acc σ' := by
  cases its with
  | l xs =>
    have h' : xs[i]? = some d := h
    obtain ⟨hi, e⟩ := List.getElem?_eq_some_iff.mp h'
    simp only [Its.compFrom]
    rw [List.drop_eq_getElem_cons hi, e, compL]
    all_goals rfl
  | r lo st n =>
    simp only [Its.at?] at h
    split at h
    · rename_i hi
      cases h
      simp only [Its.compFrom]
      rw [show n - i = (n - (i + 1)) + 1 from by omega, compR]
      have e : lo + (i : Nat) * st + st = lo + ((i + 1 : Nat) : Int) * st := by
        rw [Int.natCast_add, Int.add_mul]
        omega
      rw [e]
      all_goals rfl
    · cases h
/-! ### slots wiped and put back -/
theorem wipe_at {s : St} {r : Nat} : ∀ {own : List Nat}, r ∉ own → (wipe s own)[r]? = s[r]?
  | [], _ => rfl
  | i :: own, h => by
    rw [wipe, List.getElem?_set_ne (fun z => h (by rw [z]; exact List.mem_cons_self))]
    exact wipe_at fun z => h (List.mem_cons_of_mem _ z)
theorem wipe_in {s : St} {r : Nat} : ∀ {own : List Nat}, r ∈ own → r < s.length → (wipe s own)[r]? = some none
  | i :: own, h, hl => by
    rw [wipe]
    by_cases z : i = r
    · subst z
      rw [List.getElem?_set_self (by rw [wipe_length]; exact hl)]
    · rw [List.getElem?_set_ne z]
      rcases List.mem_cons.mp h with q | q
      · exact absurd q.symm z
      · exact wipe_in q hl
theorem wipe_eq {s s' : St} {own : List Nat} (hl : s'.length = s.length) (h : ∀ r, r ∉ own → s'[r]? = s[r]?) : wipe s' own = wipe s own := by
  apply List.ext_getElem?
  intro r
  by_cases hr : r ∈ own
  · by_cases hb : r < s.length
    · rw [wipe_in hr hb, wipe_in hr (by omega)]
    · rw [List.getElem?_eq_none (by rw [wipe_length]; omega), List.getElem?_eq_none (by rw [wipe_length]; omega)]
  · rw [wipe_at hr, wipe_at hr, h r hr]
theorem wipeS_length (σ : Sto) : ∀ own : List Nat, (wipeS σ own).length = σ.length
  | [] => rfl
  | i :: own => by rw [wipeS, List.length_set, wipeS_length σ own]
mutual
theorem asg_length : ∀ {t : Tg} {p : PV} {σ σ' : Sto}, asg t p σ = some σ' → σ'.length = σ.length
  | .n i, p, σ, σ', h => by
    rw [asg] at h
    cases h
    rw [List.length_set]
  | .t ts, p, σ, σ', h => by
    cases p with
    | d x =>
      cases x with
      | tup xs =>
        rw [asg] at h
        exact asgs_length h
      | _ => simp [asg] at h
    | tup xs =>
      rw [asg] at h
      exact asgs_length h
    | _ => simp [asg] at h
theorem asgs_length : ∀ {ts : List Tg} {ps : List PV} {σ σ' : Sto}, asgs ts ps σ = some σ' → σ'.length = σ.length
  | [], [], _, _, h => by
    rw [asgs] at h
    cases h
    rfl
  | [], _ :: _, _, _, h => by simp [asgs] at h
  | _ :: _, [], _, _, h => by simp [asgs] at h
  | t :: ts, p :: ps, σ, σ', h => by
    rw [asgs] at h
    cases e1 : asg t p σ with
    | none => rw [e1] at h; cases h
    | some σ1 =>
      rw [e1] at h
      rw [asgs_length (show asgs ts ps σ1 = some σ' from h), asg_length e1]
end
section
variable {K : PySem.W.Frag} {W : WX} {C : CF} {H H1 H2 H' : Hp} {s s2 : St} {w w1 w2 R wv wv2 O O' : List Addr} {σ σ1 σ2 : Sto} {Q : VK}
theorem RepS.wipe (h : RepS K H O σ s w) : ∀ own : List Nat, ∃ w', RepS K H O (wipeS σ own) (L2.wipe s own) w' ∧ ∃ wd, w.Perm (wd ++ w')
  | [] => ⟨w, h, [], List.Perm.refl _⟩
  | i :: own => by
    obtain ⟨w1, h1, wd, p1⟩ := h.wipe own
    obtain ⟨wd2, w2, h2, p2⟩ := h1.drop i none
    refine ⟨w2, h2, wd ++ wd2, ?_⟩
    rw [List.append_assoc]
    exact p1.trans (List.Perm.append_left wd p2)
theorem Good.wipe (g : Good K H σ s w R) (own : List Nat) : ∃ w', Good K H (wipeS σ own) (L2.wipe s own) w' R ∧ ∀ b ∈ w', b ∈ w := by
  obtain ⟨w', h, wd, pm⟩ := g.rep.wipe own
  have pmO : (w ++ R).Perm (wd ++ (w' ++ R)) := by
    rw [← List.append_assoc]
    exact List.Perm.append_right R pm
  have mem : ∀ b, b ∈ w' ++ R → b ∈ w ++ R := fun b hb => pmO.mem_iff.mpr (List.mem_append_right _ hb)
  exact ⟨w', ⟨h.ext (Ext.less mem) fun _ _ _ q => q, (List.nodup_append.mp (pmO.nodup_iff.mp g.nd)).2.1, fun b hb => g.mu b (mem b hb)⟩, fun b hb => pm.mem_iff.mpr (List.mem_append_right _ hb)⟩
theorem RepS.back : ∀ {own : List Nat} {s2 : St} {τ : Sto} {w : List Addr}, RepS K H O τ s2 w → s2.length = s.length → (∀ r, r ∉ own → s2[r]? = s[r]?) → (∀ i x, i ∈ own → σ1[i]? = some (some (.d x)) → ∃ v, s[i]? = some (some v) ∧ RepD K H O x v) →
    ∃ w', RepS K H O (backS σ1 own τ) s w' ∧ ∃ wd, w.Perm (wd ++ w')
  | [], s2, τ, w, h, hl, hs, hd => by
    have e : s2 = s := List.ext_getElem? fun r => hs r (by simp)
    rw [e] at h
    exact ⟨w, h, [], List.Perm.refl _⟩
  | i :: own, s2, τ, w, h, hl, hs, hd => by
    obtain ⟨wd, w1, h1, p1⟩ := h.drop i (s[i]?.join)
    have hs3 : ∀ r, r ∉ own → (s2.set i (s[i]?.join))[r]? = s[r]? := fun r hr => by
      by_cases z : i = r
      · subst z
        by_cases hb : i < s.length
        · rw [List.getElem?_set_self (by omega), List.getElem?_eq_getElem hb]
          rfl
        · rw [List.getElem?_eq_none (by rw [List.length_set]; omega), List.getElem?_eq_none (by omega)]
      · rw [List.getElem?_set_ne z]
        exact hs r fun q => (List.mem_cons.mp q).elim (fun q => z q.symm) hr
    have nx : ∀ τ', RepS K H O τ' (s2.set i (s[i]?.join)) w1 → ∃ w', RepS K H O (backS σ1 own τ') s w' ∧ ∃ wd', w.Perm (wd' ++ w') := fun τ' h' => by
      obtain ⟨w', h2, wd2, p2⟩ := RepS.back (own := own) h' (by rw [List.length_set]; exact hl) hs3 fun j x hj e => hd j x (List.mem_cons_of_mem _ hj) e
      refine ⟨w', h2, wd ++ wd2, ?_⟩
      rw [List.append_assoc]
      exact p1.trans (List.Perm.append_left wd p2)
    rw [backS]
    split
    · rename_i x e
      obtain ⟨v, ev, rv⟩ := hd i x List.mem_cons_self e
      have hb : i < s.length := (List.getElem?_eq_some_iff.mp ev).1
      refine nx _ ?_
      have hat : (s2.set i (s[i]?.join))[i]? = some (some v) := by
        rw [List.getElem?_set_self (by omega), ev]
        rfl
      have h1' : RepS K H O ((τ.set i (some (.d x))).set i none) (s2.set i (s[i]?.join)) w1 := by
        rw [List.set_set]
        exact h1
      have := h1'.put (p := .d x) (wr := []) hat (by rw [RepP]; exact ⟨rfl, rv⟩)
      rw [List.set_set] at this
      exact this
    · exact nx _ h1
variable (K W C) in
def TTs (cs : List E) : TT := fun s H Q => ∃ σ w R, Good K H σ s w R ∧ Out K W H s w R (OkT K H s w R Q) (evalTs C cs σ)
variable {X : Cx}
theorem tts_nil : PTs X [] (TTs X.K W C []) := ⟨fun pins s σ H Q I ⟨σ0, w, R, g, h⟩ => pts_nil.run pins s σ H Q I (by
  rw [evalTs] at h
  exact h H w g .refl)⟩
theorem tts_one {c : Expr} {i : E} (h : PT X c (TT' X.K W C i)) : PTs X [c] (TTs X.K W C [i]) := ⟨fun pins s σ H Q I ⟨σ0, w, R, g, hh⟩ => (pts_one h).run pins s σ H Q I (by
  refine ⟨σ0, w, R, g, ?_⟩
  rw [evalTs] at hh
  cases e1 : evalE C i σ0 with
  | bad => rw [e1] at hh; exact hh
  | exc c fs σ1 => rw [e1] at hh; exact hh
  | ok p σ1 =>
    rw [e1] at hh
    simp only [Res.bind_ok] at hh ⊢
    cases e2 : truO p.frz with
    | none => rw [e2] at hh; exact hh
    | some k =>
      rw [e2] at hh
      cases k with
      | true => simpa [evalTs] using hh
      | false => simpa using hh)⟩
theorem Step.fr {u : List Addr} (a : Step w H (w1 ++ u) H1) (t : Step w1 H1 w2 H2) : Step w H (w2 ++ u) H2 :=
  a.trans ⟨fun b o e n => t.keep b o e fun z => n (List.mem_append_left _ z), fun b hb => by
    rcases List.mem_append.mp hb with q | q
    · rcases t.old b q with q | q
      · exact .inl (List.mem_append_left _ q)
      · exact .inr q
    · exact .inl (List.mem_append_right _ q)⟩
/-- a new thing, owned by nobody's slot -/
theorem Good.new {D : Addr} {o : HO} (g : Good K H σ s w R) (hD : H D = none) (m : Mut (some o)) : Good K (upd H D o) σ s w (D :: R) ∧ Ext K H (w ++ R) (upd H D o) (w ++ (D :: R)) := by
  have k := upd_keep (o := o) hD
  have np : D ∉ w ++ R := fun z => by
    have m := g.mu D z
    rw [hD] at m
    exact m
  have x : Ext K H (w ++ R) (upd H D o) (w ++ (D :: R)) := (Step.same (w := w) k).ext (fun b hb => g.mu b (List.mem_append_left _ hb)) (fun b hb => List.mem_append_left _ hb) fun b hb => by
    rcases List.mem_append.mp hb with q | q
    · exact .inl (List.mem_append_left _ q)
    · rcases List.mem_cons.mp q with q | q
      · rw [q]
        exact .inr hD
      · exact .inl (List.mem_append_right _ q)
  refine ⟨⟨g.rep.ext x fun a _ o e => k a o e, ?_, fun b hb => ?_⟩, x⟩
  · rw [List.perm_middle.nodup_iff, List.nodup_cons]
    exact ⟨np, g.nd⟩
  · by_cases z : b = D
    · rw [z, upd_same]
      exact m
    · have hb' : b ∈ w ++ R := by
        rcases List.mem_append.mp hb with q | q
        · exact List.mem_append_left _ q
        · exact List.mem_append_right _ ((List.mem_cons.mp q).resolve_left z)
      exact (g.keep k).mu b hb'
/-- what a comprehension keeps as it goes -/
structure CI (K : PySem.W.Frag) (H1 : Hp) (w1 R : List Addr) (D : Addr) (G : Hp → List Addr → Prop) (own : List Nat) (σ1 : Sto) (s : St) (H : Hp) (w wa : List Addr) (acc : List PV) (us : List V) : Prop where
  here : H D = some (.lst us)
  ra : RepPs K H (w ++ ((D :: wa) ++ R)) acc us wa
  st : Step w1 H1 (w ++ (D :: wa)) H
  hG : G H (w ++ ((D :: wa) ++ R))
  own : ∀ i x, i ∈ own → σ1[i]? = some (some (.d x)) → ∃ v, s[i]? = some (some v) ∧ RepD K H (w ++ ((D :: wa) ++ R)) x v
theorem CI.move {D : Addr} {G : Hp → List Addr → Prop} {own : List Nat} {wa w' : List Addr} {acc : List PV} {us : List V} {J : It} {its : Its} {P : List Addr} (hP : ∀ b ∈ P, b ∈ R) (wd : WalkP K J its P G) (c : CI K H1 w1 R D G own σ1 s H w wa acc us) (g : Good K H σ s2 w ((D :: wa) ++ R)) (t : Step w H w' H') : CI K H1 w1 R D G own σ1 s H' w' wa acc us := by
  have x := g.ext t
  have k : ∀ a ∈ (D :: wa) ++ R, ∀ o, H a = some o → H' a = some o := fun a ha o e => t.keep a o e fun z => nd_disj g.nd z ha
  refine ⟨k D (by simp) _ c.here, RepPs.ext x _ _ _ (fun a ha o e => k a (List.mem_append_left _ (List.mem_cons_of_mem _ ha)) o e) c.ra, c.st.fr t, wd.ext x (fun b hb o e => k b (List.mem_append_right _ (hP b hb)) o e) c.hG, fun i y hi e => ?_⟩
  obtain ⟨v, ev, rv⟩ := c.own i y hi e
  exact ⟨v, ev, RepD.ext x _ _ rv⟩
/-- an item more -/
theorem CI.push {D : Addr} {G : Hp → List Addr → Prop} {own : List Nat} {wa : List Addr} {acc : List PV} {us : List V} {J : It} {its : Its} {P : List Addr} {v : PV} {y : V} (hP : ∀ b ∈ P, b ∈ R) (wd : WalkP K J its P G) (c : CI K H1 w1 R D G own σ1 s H w wa acc us) (g : Good K H σ s2 w ((D :: wa) ++ R))
    (g2 : Good K H2 σ2 s2 w2 (wv2 ++ ((D :: wa) ++ R))) (rv : RepP K H2 (w2 ++ (wv2 ++ ((D :: wa) ++ R))) v y wv2) (t : Step w H (w2 ++ wv2) H2) :
    H2 D = some (.lst us) ∧ Good K (upd H2 D (.lst (us ++ [y]))) σ2 s2 w2 ((D :: (wa ++ wv2)) ++ R) ∧ CI K H1 w1 R D G own σ1 s (upd H2 D (.lst (us ++ [y]))) w2 (wa ++ wv2) (acc ++ [v]) (us ++ [y]) := by
  obtain ⟨x, k⟩ := g.pend t
  have hD : H2 D = some (.lst us) := k D (by simp) _ c.here
  have pm : (wv2 ++ ((D :: wa) ++ R)).Perm ((D :: (wa ++ wv2)) ++ R) := by
    rw [← List.append_assoc]
    exact List.Perm.append_right R List.perm_append_comm
  have g3 := g2.permR pm
  have pmO : (w2 ++ (wv2 ++ ((D :: wa) ++ R))).Perm (w2 ++ ((D :: (wa ++ wv2)) ++ R)) := List.Perm.append_left w2 pm
  have x2 : Ext K H (w ++ ((D :: wa) ++ R)) H2 (w2 ++ ((D :: (wa ++ wv2)) ++ R)) := ⟨x.tup, fun a vs q n => ⟨(x.lst a vs q n).1, fun z => (x.lst a vs q n).2 (pmO.mem_iff.mpr z)⟩, x.scr, fun a o d q n => ⟨(x.dic a o d q n).1, fun z => (x.dic a o d q n).2 (pmO.mem_iff.mpr z)⟩⟩
  have hDO : D ∈ w2 ++ ((D :: (wa ++ wv2)) ++ R) := by simp
  have x3 : Ext K H2 (w2 ++ ((D :: (wa ++ wv2)) ++ R)) (upd H2 D (.lst (us ++ [y]))) (w2 ++ ((D :: (wa ++ wv2)) ++ R)) := Ext.upd hD hDO
  have nD : D ∉ w2 ++ ((wa ++ wv2) ++ R) := by
    have h : (w2 ++ (D :: ((wa ++ wv2) ++ R))).Nodup := g3.nd
    rw [List.perm_middle.nodup_iff, List.nodup_cons] at h
    exact h.1
  have kp : ∀ a ∈ w2 ++ ((wa ++ wv2) ++ R), ∀ o, H2 a = some o → upd H2 D (.lst (us ++ [y])) a = some o := fun a ha o e => by
    rw [upd_ne (fun z => nD (by rw [← z]; exact ha))]
    exact e
  refine ⟨hD, ⟨g3.rep.ext x3 fun a ha o e => kp a (List.mem_append_left _ ha) o e, g3.nd, fun b hb => ?_⟩, upd_same, ?_, ?_, wd.ext x3 (fun b hb o e => kp b (List.mem_append_right _ (List.mem_append_right _ (hP b hb))) o e) (wd.ext x2 (fun b hb o e => k b (List.mem_append_right _ (hP b hb)) o e) c.hG), fun i z hi e => ?_⟩
  · by_cases z : b = D
    · rw [z, upd_same]
      exact True.intro
    · rw [upd_ne z]
      exact g3.mu b hb
  · have r1 := RepPs.ext x3 _ _ _ (fun a ha o e => kp a (List.mem_append_right _ (List.mem_append_left _ (List.mem_append_left _ ha))) o e) (RepPs.ext x2 _ _ _ (fun a ha o e => k a (List.mem_append_left _ (List.mem_cons_of_mem _ ha)) o e) c.ra)
    have r2 : RepPs K (upd H2 D (.lst (us ++ [y]))) (w2 ++ ((D :: (wa ++ wv2)) ++ R)) [v] [y] wv2 := by
      rw [RepPs]
      refine ⟨y, [], wv2, [], rfl, by simp, ?_, by rw [RepPs]; exact ⟨rfl, rfl⟩⟩
      exact RepP.ext x3 _ _ _ (fun a ha o e => kp a (List.mem_append_right _ (List.mem_append_left _ (List.mem_append_right _ ha))) o e) (RepP.ext (Ext.less fun b hb => pmO.mem_iff.mpr hb) _ _ _ (fun _ _ _ q => q) rv)
    exact r1.append r2
  · have t1 : Step w1 H1 ((w2 ++ wv2) ++ (D :: wa)) H2 := c.st.fr t
    refine (t1.less fun b hb => ?_).chg hD (w1 := w2 ++ (D :: (wa ++ wv2))) (by simp) fun b hb => hb
    simp only [List.mem_append, List.mem_cons] at hb ⊢
    rcases hb with q | q | q | q
    · exact .inl (.inl q)
    · exact .inr (.inl q)
    · exact .inr (.inr q)
    · exact .inl (.inr q)
  · obtain ⟨v', ev, rv'⟩ := c.own i z hi e
    exact ⟨v', ev, RepD.ext x3 _ _ (RepD.ext x2 _ _ rv')⟩
def WN : WX := fun _ _ _ _ => False
theorem lc_gen {tg : Tg} {cs : List E} {own : List Nat} {elt : E} {P : List Addr} {J : It} {its : Its} {G : Hp → List Addr → Prop} (hP : ∀ b ∈ P, b ∈ R)
    (h : Out K W H s w R (OkV K H s w R Q) ((its.comp (fun (x : Dat) (τ : Sto) => match asg tg (.d x) (wipeS τ own) with
          | some τ1 => noX ((evalTs C cs τ1).bind fun b τ2 => if b then (evalE C elt τ2).bind fun v τ3 => .ok (some v) τ3 else .ok none τ2)
          | none => .bad) (wipeS σ1 own)).bind fun vs σ2 => .ok (.lst vs) (backS σ1 own σ2)))
    (g1 : Good K H1 σ1 s w1 R) (t1 : Step w H w1 H1) (wd : WalkP K J its P G) (hG : G H1 (w1 ++ R)) : tLc (fun _ _ Rr => Rr J H1) (TGt K own tg) (TTs K WN C cs) (T K WN C elt) own s H Q := by
  intro D hD
  rw [Its.comp_zero] at h
  generalize hf : (fun (x : Dat) (τ : Sto) => match asg tg (.d x) (wipeS τ own) with
      | some τ1 => noX ((evalTs C cs τ1).bind fun b τ2 => if b then (evalE C elt τ2).bind fun v τ3 => .ok (some v) τ3 else .ok none τ2)
      | none => .bad) = f at h
  have hf' : ∀ x τ, f x τ = match asg tg (.d x) (wipeS τ own) with
      | some τ1 => noX ((evalTs C cs τ1).bind fun b τ2 => if b then (evalE C elt τ2).bind fun v τ3 => .ok (some v) τ3 else .ok none τ2)
      | none => .bad := fun x τ => by rw [← hf]
  clear hf
  generalize hr : its.compFrom f 0 [] (wipeS σ1 own) = r at h
  refine ⟨fun i m H => m = its.len - i ∧ i ≤ its.len ∧ ∃ τ s2 wc wa acc us, Good K H τ s2 wc ((D :: wa) ++ R) ∧ s2.length = s.length ∧ (∀ r, r ∉ own → s2[r]? = s[r]?) ∧ CI K H1 w1 R D G own σ1 s H wc wa acc us ∧ its.compFrom f i acc τ = r, ⟨its.len, by simp, Nat.zero_le _, ?_⟩, ?_⟩
  · obtain ⟨wc, g2, sub⟩ := g1.wipe own
    obtain ⟨g3, x3⟩ := g2.new hD (o := .lst []) True.intro
    have less : Ext K H1 (w1 ++ R) H1 (wc ++ R) := Ext.less fun b hb => by
      rcases List.mem_append.mp hb with q | q
      · exact List.mem_append_left _ (sub b q)
      · exact List.mem_append_right _ q
    refine ⟨_, _, wc, [], [], [], g3, wipe_length _ _, fun r hr => wipe_at hr, ⟨upd_same, by rw [RepPs]; exact ⟨rfl, rfl⟩, ⟨fun b o e _ => upd_keep hD b o e, fun b hb => ?_⟩, wd.ext x3 (fun b _ o e => upd_keep hD b o e) (wd.ext less (fun _ _ _ e => e) hG), fun i x hi e => ?_⟩, hr⟩
    · rcases List.mem_append.mp hb with q | q
      · exact .inl (sub b q)
      · have : b = D := by simpa using q
        rw [this]
        exact .inr hD
    · obtain ⟨v, _, _, ev, rv, _, _⟩ := g1.slot e
      rw [RepP] at rv
      exact ⟨v, ev, RepD.ext x3 _ _ (RepD.ext less _ _ rv.2)⟩
  rintro i m H3 ⟨rfl, hi, τ, s2, wc, wa, acc, us, g3, hl, hs, c3, hc⟩
  by_cases hlt : i < its.len
  · obtain ⟨d, hd⟩ := its.at_some hlt
    refine .inr ⟨wd.goes i H3 _ hlt c3.hG, fun H' => ∃ τ s2 wc wa acc us, Good K H' τ s2 wc ((D :: wa) ++ R) ∧ s2.length = s.length ∧ (∀ r, r ∉ own → s2[r]? = s[r]?) ∧ CI K H1 w1 R D G own σ1 s H' wc wa acc us ∧ its.compFrom f (i + 1) acc τ = r, fun H' p' => ⟨its.len - (i + 1), by omega, rfl, hlt, p'⟩, fun x H4 y => ?_⟩
    obtain ⟨k4, rd⟩ := wd.yields i H3 _ x H4 d hd c3.hG g3.mu y
    have g4 := g3.keep k4
    obtain ⟨wc5, g5, sub5⟩ := g4.wipe own
    rw [wipe_eq hl hs] at g5
    have c5 : CI K H1 w1 R D G own σ1 s H4 wc5 wa acc us := c3.move hP wd g3 ((Step.same k4).less sub5)
    rw [Its.comp_step hd, hf'] at hc
    have noBad : r ≠ .bad := fun z => by
      rw [z] at h
      exact h
    cases ea : asg tg (.d d) (wipeS τ own) with
    | none =>
      rw [ea] at hc
      exact absurd hc.symm noBad
    | some τ1 =>
      rw [ea] at hc
      simp only at hc
      have sub5' : ∀ b, b ∈ wc5 ++ ((D :: wa) ++ R) → b ∈ wc ++ ((D :: wa) ++ R) := fun b hb => by
        rcases List.mem_append.mp hb with q | q
        · exact List.mem_append_left _ (sub5 b q)
        · exact List.mem_append_right _ q
      refine ⟨.d d, wipeS τ own, wc5, (D :: wa) ++ R, [], by simpa using g5, by rw [RepP]; exact ⟨rfl, RepD.ext (Ext.less (by simpa using sub5')) _ _ rd⟩, τ1, ea, fun s6 w6 g6 sub6 fr6 => ?_⟩
      have l6 : s6.length = s.length := by
        have a1 := g6.rep.length
        have a2 := asg_length ea
        have a3 := wipeS_length τ own
        have a4 := g3.rep.length
        omega
      have fr : ∀ r, r ∉ own → s6[r]? = s[r]? := fun r hr => (fr6 r hr).trans (wipe_at hr)
      refine ⟨wipe_eq l6 fr, τ1, w6, (D :: wa) ++ R, g6, ?_⟩
      have c6 : CI K H1 w1 R D G own σ1 s H4 w6 wa acc us := c5.move hP wd g5 (Step.refl.less fun b hb => by simpa using sub6 b hb)
      cases et : evalTs C cs τ1 with
      | bad =>
        rw [et] at hc
        exact absurd hc.symm noBad
      | exc c' fs' τ2 =>
        rw [et] at hc
        exact absurd hc.symm noBad
      | ok b τ2 =>
        rw [et, Res.bind_ok] at hc
        intro H7 w7 g7 t7
        have c7 := c6.move hP wd g6 t7
        cases b with
        | false =>
          rw [if_neg Bool.false_ne_true]
          exact ⟨τ2, s6, w7, wa, acc, us, g7, l6, fr, c7, by simpa [noX] using hc⟩
        | true =>
          rw [if_pos rfl]
          refine ⟨τ2, w7, (D :: wa) ++ R, g7, ?_⟩
          cases ee : evalE C elt τ2 with
          | bad =>
            rw [ee] at hc
            exact absurd hc.symm noBad
          | exc c' fs' τ3 =>
            rw [ee] at hc
            exact absurd hc.symm noBad
          | ok v τ3 =>
            rw [ee] at hc
            rintro y H8 ⟨w8, wv8, g8, r8, t8⟩
            have hc' : (if acc.length < sizeLine then its.compFrom f (i + 1) (acc ++ [v]) τ3 else .bad) = r := by simpa [noX] using hc
            by_cases hz : acc.length < sizeLine
            · rw [if_pos hz] at hc'
              obtain ⟨e8, g9, c9⟩ := c7.push hP wd g7 g8 r8 t8
              exact ⟨us, e8, by rw [c7.ra.length]; exact hz, τ3, s6, w8, wa ++ wv8, acc ++ [v], us ++ [y], g9, l6, fr, c9, hc'⟩
            · rw [if_neg hz] at hc'
              exact absurd hc'.symm noBad
  · have e : i = its.len := by omega
    subst e
    refine .inl ⟨wd.stops H3 _ c3.hG, ?_⟩
    rw [Its.comp_end] at hc
    subst hc
    rw [Res.bind_ok] at h
    obtain ⟨w', hb, wd', pm⟩ := RepS.back (σ1 := σ1) g3.rep hl hs c3.own
    have pmO : (wc ++ ((D :: wa) ++ R)).Perm (wd' ++ (w' ++ ((D :: wa) ++ R))) := by
      rw [← List.append_assoc wd']
      exact List.Perm.append_right _ pm
    have mem : ∀ b, b ∈ w' ++ ((D :: wa) ++ R) → b ∈ wc ++ ((D :: wa) ++ R) := fun b hb => pmO.mem_iff.mpr (List.mem_append_right _ hb)
    have less : Ext K H3 (wc ++ ((D :: wa) ++ R)) H3 (w' ++ ((D :: wa) ++ R)) := Ext.less mem
    have sub : ∀ b ∈ w', b ∈ wc := fun b hb => pm.mem_iff.mpr (List.mem_append_right _ hb)
    refine h _ _ ⟨w', D :: wa, ⟨hb.ext less fun _ _ _ q => q, (List.nodup_append.mp (pmO.nodup_iff.mp g3.nd)).2.1, fun b hb => g3.mu b (mem b hb)⟩, ?_, ?_⟩
    · rw [RepP]
      exact ⟨D, us, wa, rfl, rfl, c3.here, RepPs.ext less _ _ _ (fun _ _ _ q => q) c3.ra⟩
    · refine t1.trans (c3.st.less fun b hb => ?_)
      rcases List.mem_append.mp hb with q | q
      · exact List.mem_append_left _ (sub b q)
      · exact List.mem_append_right _ q
theorem lc_read {k : SK} {ss : List E} {tg : Tg} {cs : List E} {own : List Nat} {elt : E} (h : T K W C (.comp k ss tg cs own elt) s H Q) : tLc (TIr K W C k ss) (TGt K own tg) (TTs K WN C cs) (T K WN C elt) own s H Q := by
  obtain ⟨σ, w, R, g, h⟩ := h
  refine ⟨σ, w, R, g, ?_⟩
  rw [evalE] at h
  cases e1 : evalEs C ss σ with
  | bad => rw [e1] at h; exact h
  | exc c fs σ1 => rw [e1] at h; exact h
  | ok ps σ1 =>
    rw [e1, Res.bind_ok] at h
    cases e2 : itsOf k (frzs ps) with
    | none => rw [e2] at h; exact h.elim
    | some its =>
      rw [e2] at h
      refine ⟨its, e2, fun J G H1 w1 g1 t1 wd hG => ?_⟩
      exact lc_gen (P := []) (fun b hb => by cases hb) h g1 t1 wd.toP hG
end
end R

/-! A11: statements. -/
namespace R
open PySem PySem.Spec L2
open PyProof.Rows hiding St
section
variable (K : PySem.W.Frag) (W : WX) (C : CF) (fu : Nat) (A : List Nat)
def FinS (H : Hp) (s : St) (w R : List Addr) (σ' : Sto) (s' : St) (H' : Hp) : Prop := ∃ w', Good K H' σ' s' w' R ∧ Step w H w' H' ∧ ∀ r, r ∉ A → s'[r]? = s[r]?
def SOut (D : Ends) (H : Hp) (s : St) (w R : List Addr) : FR → Prop
  | .nx σ' => ∀ s' H', FinS K A H s w R σ' s' H' → D.nx s' H'
  | .brk σ' => ∀ s' H', FinS K A H s w R σ' s' H' → D.bk s' H'
  | .cont σ' => ∀ s' H', FinS K A H s w R σ' s' H' → D.ct s' H'
  | .ret p σ' => ∀ s' v H' w' wv, Good K H' σ' s' w' (wv ++ R) → RepP K H' (w' ++ (wv ++ R)) p v wv → Step w H (w' ++ wv) H' → (∀ r, r ∉ A → s'[r]? = s[r]?) → D.rt v H'
  | .exc c fs σ' => ∀ s' cls d H', (∀ r, r ∉ A → s'[r]? = s[r]?) → FinX K H s' w R c fs σ' cls d H' → W cls d s' H'
  | .bad => False
def TSt (i : S) : TS := fun D s H => ∃ σ w R, Good K H σ s w R ∧ SOut K W A D H s w R (execS C fu i σ)
def TSs (is : List S) : TS := fun D s H => ∃ σ w R, Good K H σ s w R ∧ SOut K W A D H s w R (execB C fu is σ)
end
theorem PS.weak {X : Cx} {st : Stmt} {t t' : TS} (h : PS X st t) (k : ∀ D σ H, t' D σ H → t D σ H) : PS X st t' := ⟨fun pins s σ H D I q => h.run pins s σ H D I (k D σ H q)⟩
theorem PSs.weak {X : Cx} {st : List Stmt} {t t' : TS} (h : PSs X st t) (k : ∀ D σ H, t' D σ H → t D σ H) : PSs X st t' := ⟨fun pins s σ H D I q => h.run pins s σ H D I (k D σ H q)⟩
section
variable {K : PySem.W.Frag} {W : WX} {C : CF} {fu : Nat} {A : List Nat} {D : Ends} {H H1 H2 H' : Hp} {s s1 s2 : St} {w w1 w2 R wv wv2 O O' : List Addr} {σ σ1 σ2 : Sto} {Q : VK}
theorem FinS.back {σ' : Sto} {s' : St} (t : Step w H w1 H1) (fr : ∀ r, r ∉ A → s1[r]? = s[r]?) (h : FinS K A H1 s1 w1 R σ' s' H') : FinS K A H s w R σ' s' H' := by
  obtain ⟨w', g, t', f⟩ := h
  exact ⟨w', g, t.trans t', fun r hr => (f r hr).trans (fr r hr)⟩
/-- behind a part -/
theorem SOut.step {r : FR} (h : SOut K W A D H s w R r) (t : Step w H w1 H1) (fr : ∀ r, r ∉ A → s1[r]? = s[r]?) : SOut K W A D H1 s1 w1 R r := by
  cases r with
  | nx σ' => exact fun s' H' f => h s' H' (f.back t fr)
  | brk σ' => exact fun s' H' f => h s' H' (f.back t fr)
  | cont σ' => exact fun s' H' f => h s' H' (f.back t fr)
  | ret p σ' => exact fun s' v H' w' wv g r t' f => h s' v H' w' wv g r (t.trans t') fun r hr => (f r hr).trans (fr r hr)
  | exc c fs σ' =>
    intro s' cls d H' f ⟨w', g, t', x⟩
    exact h s' cls d H' (fun r hr => (f r hr).trans (fr r hr)) ⟨w', g, t.trans t', x⟩
  | bad => exact h
theorem SOut.exc {c : Str} {fs : List (Str × Dat)} (h : SOut K W A D H s w R (.exc c fs σ1)) : OutX K W H s w R c fs σ1 := fun cls d H' f => h s cls d H' (fun _ _ => rfl) f
theorem SOut.mono {r : FR} {A' : List Nat} (h : SOut K W A D H s w R r) (k : ∀ r ∈ A', r ∈ A) : SOut K W A' D H s w R r := by
  have kk : ∀ r, r ∉ A → r ∉ A' := fun r hr z => hr (k r z)
  have fm : ∀ {σ' s' H'}, FinS K A' H s w R σ' s' H' → FinS K A H s w R σ' s' H' := fun ⟨w', g, t, f⟩ => ⟨w', g, t, fun r hr => f r (kk r hr)⟩
  cases r with
  | nx σ' => exact fun s' H' f => h s' H' (fm f)
  | brk σ' => exact fun s' H' f => h s' H' (fm f)
  | cont σ' => exact fun s' H' f => h s' H' (fm f)
  | ret p σ' => exact fun s' v H' w' wv g r t' f => h s' v H' w' wv g r t' fun r hr => f r (kk r hr)
  | exc c fs σ' => exact fun s' cls d H' f x => h s' cls d H' (fun r hr => f r (kk r hr)) x
  | bad => exact h
/-- an expression within a statement -/
theorem T.ofS {e : E} {f : PV → Sto → FR} (g : Good K H σ s w R) (h : SOut K W A D H s w R (FRof (evalE C e σ) f))
    (k : ∀ p σ1 v H1 w1 wv, Good K H1 σ1 s w1 (wv ++ R) → RepP K H1 (w1 ++ (wv ++ R)) p v wv → Step w H (w1 ++ wv) H1 → SOut K W A D H s w R (f p σ1) → Q v H1) : T K W C e s H Q := by
  refine ⟨σ, w, R, g, ?_⟩
  cases e1 : evalE C e σ with
  | ok p σ1 =>
    rw [e1] at h
    rintro v H1 ⟨w1, wv, g1, r1, t1⟩
    exact k p σ1 v H1 w1 wv g1 r1 t1 h
  | exc c fs σ1 =>
    rw [e1] at h
    exact SOut.exc h
  | bad =>
    rw [e1] at h
    exact h
theorem T.ofSD {e : E} {f : PV → Sto → FR} (g : Good K H σ s w R) (h : SOut K W A D H s w R (FRof (evalE C e σ) f))
    (k : ∀ p σ1 v H1 w1, Good K H1 σ1 s w1 R → RepD K H1 (w1 ++ R) p.frz v → Step w H w1 H1 → SOut K W A D H s w R (f p σ1) → Q v H1) : T K W C e s H Q :=
  T.ofS g h fun p σ1 v H1 w1 wv g1 r1 t1 h1 => by
    obtain ⟨g2, r2⟩ := g1.frz r1
    exact k p σ1 v H1 w1 g2 r2 (t1.less fun b hb => List.mem_append_left _ hb) h1
def FRl (r : Res (List PV)) (f : List PV → Sto → FR) : FR :=
  match r with
  | .ok a σ => f a σ
  | .exc c fs σ => .exc c fs σ
  | .bad => .bad
theorem TL.ofS {es : List E} {f : List PV → Sto → FR} {Qb : List V → Hp → Prop} (g : Good K H σ s w R) (h : SOut K W A D H s w R (FRl (evalEs C es σ) f))
    (k : ∀ ps σ1 vs H1 w1 wv, Good K H1 σ1 s w1 (wv ++ R) → RepPs K H1 (w1 ++ (wv ++ R)) ps vs wv → ps.length = es.length → Step w H (w1 ++ wv) H1 → SOut K W A D H s w R (f ps σ1) → Qb vs H1) : TL K W C es s H Qb := by
  refine ⟨σ, w, R, g, ?_⟩
  cases e1 : evalEs C es σ with
  | ok p σ1 =>
    rw [e1] at h
    rintro v H1 ⟨w1, wv, g1, r1, t1⟩
    exact k p σ1 v H1 w1 wv g1 r1 (evalEs_len e1) t1 h
  | exc c fs σ1 =>
    rw [e1] at h
    exact SOut.exc h
  | bad =>
    rw [e1] at h
    exact h
def FRb (r : Res Bool) (f : Bool → Sto → FR) : FR :=
  match r with
  | .ok a σ => f a σ
  | .exc c fs σ => .exc c fs σ
  | .bad => .bad
theorem TT'.ofS {c : E} {f : Bool → Sto → FR} {Qb : Bool → Hp → Prop} (g : Good K H σ s w R) (h : SOut K W A D H s w R (FRb ((evalE C c σ).bind fun p τ1 => optR (truO p.frz) τ1) f))
    (k : ∀ b σ1 H1 w1, Good K H1 σ1 s w1 R → Step w H w1 H1 → SOut K W A D H s w R (f b σ1) → Qb b H1) : TT' K W C c s H Qb := by
  refine ⟨σ, w, R, g, ?_⟩
  cases e1 : (evalE C c σ).bind fun p τ1 => optR (truO p.frz) τ1 with
  | ok b σ1 =>
    rw [e1] at h
    intro H1 w1 g1 t1
    exact k b σ1 H1 w1 g1 t1 h
  | exc c fs σ1 =>
    rw [e1] at h
    exact SOut.exc h
  | bad =>
    rw [e1] at h
    exact h
theorem FRb_of {r : Res PV} {f : Bool → Sto → FR} : FRof r (fun p σ1 => match truO p.frz with
    | some k => f k σ1
    | none => .bad) = FRb (r.bind fun p τ1 => optR (truO p.frz) τ1) f := by
  cases r with
  | ok p σ =>
    simp only [FRof, Res.bind_ok]
    cases truO p.frz <;> rfl
  | exc c fs σ => rfl
  | bad => rfl
variable {X : Cx}
theorem ss_nil : PSs X [] (TSs X.K W C fu A []) := PSs.weak pss_nil fun D s H ⟨σ, w, R, g, h⟩ => by
  rw [execB] at h
  exact h s H ⟨w, g, .refl, fun _ _ => rfl⟩
theorem ss_cons {st : Stmt} {sts : List Stmt} {i : S} {is : List S} (h1 : PS X st (TSt X.K W C fu A i)) (h2 : PSs X sts (TSs X.K W C fu A is)) : PSs X (st :: sts) (TSs X.K W C fu A (i :: is)) := PSs.weak (pss_cons h1 h2) fun D s H ⟨σ, w, R, g, h⟩ => by
  rw [execB] at h
  refine ⟨σ, w, R, g, ?_⟩
  cases e1 : execS C fu i σ with
  | nx σ1 =>
    rw [e1] at h
    rintro s' H' ⟨w', g', t', f'⟩
    exact ⟨σ1, w', R, g', h.step t' f'⟩
  | brk σ1 => rw [e1] at h; exact h
  | cont σ1 => rw [e1] at h; exact h
  | ret p σ1 => rw [e1] at h; exact h
  | exc c fs σ1 => rw [e1] at h; exact h
  | bad => rw [e1] at h; exact h
theorem st_pass {pos : Pos} : PS X (.Pass pos) (TSt X.K W C fu A .pass) := PS.weak ps_pass fun D s H ⟨σ, w, R, g, h⟩ => by
  rw [execS] at h
  exact h s H ⟨w, g, .refl, fun _ _ => rfl⟩
theorem st_brk {pos : Pos} : PS X (.Break pos) (TSt X.K W C fu A .brk) := PS.weak ps_break fun D s H ⟨σ, w, R, g, h⟩ => by
  rw [execS] at h
  exact h s H ⟨w, g, .refl, fun _ _ => rfl⟩
theorem st_cont {pos : Pos} : PS X (.Continue pos) (TSt X.K W C fu A .cont) := PS.weak ps_continue fun D s H ⟨σ, w, R, g, h⟩ => by
  rw [execS] at h
  exact h s H ⟨w, g, .refl, fun _ _ => rfl⟩
theorem set_end {i : Nat} {e : E} (hA : i ∈ A) (g : Good K H σ s w R) (h : SOut K W A D H s w R (execS C fu (.set i e) σ)) : T K W C e s H fun v H1 => D.nx (s.set i (some v)) H1 := by
  rw [execS] at h
  refine T.ofS g h fun p σ1 v H1 w1 wv g1 r1 t1 h1 => ?_
  obtain ⟨w', g', sub⟩ := g1.set (i := i) r1
  exact h1 _ _ ⟨w', g', t1.less sub, fun r hr => List.getElem?_set_ne fun z => hr (by rw [← z]; exact hA)⟩
theorem st_set {i : Nat} {x : Str} {e : Expr} {ie : E} {p pos : Pos} (hN : X.N.Nodup) (hi : X.N[i]? = some x) (hx : Loc X.env.scope x ∧ (X.fn x = true ∨ X.env.scope.names.lookup x = some .local)) (hA : i ∈ A) (he : PE X e (T X.K W C ie)) (hs : swapsWith e (some (.Name x p)) pos.line X.env = pure false) :
    PS X (.Assign [.Name x p] e pos) (TSt X.K W C fu A (.set i ie)) :=
  PS.weak (ps_set hN hi hx.1 he hs hx.2) fun D s H ⟨σ, w, R, g, h⟩ => set_end hA g h
theorem st_expr {e : Expr} {ie : E} {pos : Pos} (he : PE X e (T X.K W C ie)) (hs : swapsWith e none pos.line X.env = pure false) : PS X (.Expr e pos) (TSt X.K W C fu A (.expr ie)) :=
  PS.weak (ps_expr he hs) fun D s H ⟨σ, w, R, g, h⟩ => by
    rw [execS] at h
    refine T.ofSD g h fun p σ1 v H1 w1 g1 r1 t1 h1 => ?_
    exact h1 s H1 ⟨w1, g1, t1, fun _ _ => rfl⟩
theorem st_ret {e : Expr} {ie : E} {pos : Pos} (he : PE X e (T X.K W C ie)) : PS X (.Return (some e) pos) (TSt X.K W C fu A (.ret ie)) :=
  PS.weak (ps_ret he) fun D s H ⟨σ, w, R, g, h⟩ => by
    rw [execS] at h
    refine T.ofS g h fun p σ1 v H1 w1 wv g1 r1 t1 h1 => ?_
    exact h1 s v H1 w1 wv g1 r1 t1 fun _ _ => rfl
theorem st_retN {pos : Pos} : PS X (.Return none pos) (TSt X.K W C fu A (.ret (.lit .non))) :=
  PS.weak ps_retN fun D s H ⟨σ, w, R, g, h⟩ => by
    rw [execS, evalE] at h
    exact h s .non H w [] (by simpa using g) (by rw [RepP]; exact ⟨rfl, by rw [RepD]⟩) (by simpa using Step.refl) fun _ _ => rfl
theorem st_ite {c : Expr} {a b : List Stmt} {ic : E} {ia ib : List S} {pos : Pos} (hc : PT X c (TT' X.K W C ic)) (ha : PSs X a (TSs X.K W C fu A ia)) (hb : PSs X b (TSs X.K W C fu A ib)) : PS X (.If c a b pos) (TSt X.K W C fu A (.ite ic ia ib)) :=
  PS.weak (ps_if hc ha hb) fun D s H ⟨σ, w, R, g, h⟩ => by
    rw [execS] at h
    have h' : SOut X.K W A D H s w R (FRb ((evalE C ic σ).bind fun p τ1 => optR (truO p.frz) τ1) fun k σ1 => if k = true then execB C fu ia σ1 else execB C fu ib σ1) := by
      rw [← FRb_of]
      exact h
    refine TT'.ofS g h' fun k σ1 H1 w1 g1 t1 h1 => ?_
    cases k with
    | true =>
      rw [if_pos rfl]
      exact ⟨σ1, w1, R, g1, SOut.step h1 t1 fun _ _ => rfl⟩
    | false =>
      rw [if_neg Bool.false_ne_true]
      exact ⟨σ1, w1, R, g1, SOut.step h1 t1 fun _ _ => rfl⟩
theorem st_unp {tg : Expr} {e : Expr} {t : Tg} {ie : E} {pos : Pos} (he : PE X e (T X.K W C ie)) (hg : PG X tg (TGt X.K A t)) (hs : swapsWithSole [tg] e pos.line X.env = pure false) (hw : swappedStores [tg] e X.env = pure none) (h1 : (assignEach [tg] X.env).map (·.2) = [assign tg X.env]) :
    PS X (.Assign [tg] e pos) (TSt X.K W C fu A (.unp t ie)) :=
  PS.weak (ps_asg he hg hs hw h1) fun D s H ⟨σ, w, R, g, h⟩ => by
    rw [execS] at h
    refine T.ofS g h fun p σ1 v H1 w1 wv g1 r1 t1 h1 => ?_
    cases e1 : asg t p σ1 with
    | none => rw [e1] at h1; exact h1.elim
    | some σ2 =>
      rw [e1] at h1
      exact ⟨p, σ1, w1, R, wv, g1, r1, σ2, e1, fun s' w' g' sub fr => h1 s' H1 ⟨w', g', t1.less sub, fr⟩⟩
theorem ip_aug {op : Bop} (ho : op = .add ∨ op = .sub) : PIp X (bopA op) (fun x y H Q => ∃ i j k, x = .int i ∧ y = .int j ∧ augI op (.int i) (.int j) = some (.int k) ∧ Q (.int k) H) := by
  rcases ho with rfl | rfl
  · intro pins s σ H x y v u Q I r1 r2 ⟨i, j, k, e1, e2, e3, q⟩
    cases e3
    exact ip_add pins s σ H x y v u Q I r1 r2 ⟨i, j, e1, e2, q⟩
  · intro pins s σ H x y v u Q I r1 r2 ⟨i, j, k, e1, e2, e3, q⟩
    cases e3
    exact ip_sub pins s σ H x y v u Q I r1 r2 ⟨i, j, e1, e2, q⟩
theorem augI_some {op : Bop} {x y z : Dat} (h : augI op x y = some z) : ∃ i j k, x = .int i ∧ y = .int j ∧ z = .int k := by
  unfold augI at h
  split at h
  · cases h; exact ⟨_, _, _, rfl, rfl, rfl⟩
  · cases h; exact ⟨_, _, _, rfl, rfl, rfl⟩
  · cases h
theorem st_aug {i : Nat} {x : Str} {e : Expr} {ie : E} {op : Bop} {p pos : Pos} (hN : X.N.Nodup) (hi : X.N[i]? = some x) (hx : Loc X.env.scope x ∧ (X.fn x = true ∨ X.env.scope.names.lookup x = some .local)) (hA : i ∈ A) (ho : op = .add ∨ op = .sub) (he : PE X e (T X.K W C ie)) :
    PS X (.AugAssign (.Name x p) (bopA op) e pos) (TSt X.K W C fu A (.aug i op ie)) :=
  PS.weak (ps_aug hN hi hx.1 he (ip_aug ho) hx.2) fun D s H ⟨σ, w, R, g, h⟩ => by
    rw [execS] at h
    split at h
    · rename_i x0 e0
      obtain ⟨v0, _, _, es, r0, _⟩ := g.slot e0
      rw [RepP] at r0
      refine ⟨v0, es, T.ofSD g h fun p σ1 v H1 w1 g1 r1 t1 h1 => ?_⟩
      split at h1
      · rename_i y ey
        obtain ⟨a, b, c, rfl, e2, rfl⟩ := augI_some ey
        rw [e2] at r1 ey
        cases r0.2.intV
        cases r1.intV
        obtain ⟨w', g', sub⟩ := Good.set (i := i) (p := .d (.int c)) (v := .int c) (wv := []) (R := R) (by simpa using g1) (by rw [RepP]; exact ⟨rfl, by rw [RepD]⟩)
        refine ⟨a, b, c, rfl, rfl, ey, h1 _ _ ⟨w', g', t1.less fun b hb => by simpa using sub b hb, fun r hr => List.getElem?_set_ne fun z => hr (by rw [← z]; exact hA)⟩⟩
      · exact h1.elim
    · exact h.elim
/-- one name = [..] -/
theorem st_setLc {i : Nat} {y : Str} {py : Pos} {elt tg iter : Expr} {ifs : List Expr} {scope : Scope} {own : List (Str × Nat)} {pos spos : Pos} {k : SK} {ss cs : List E} {it : Tg} {ielt : E} (hc : X.calm = true) (hN : X.N.Nodup) (hy : X.N[i]? = some y) (hyl : X.env.scope.names.lookup y = some .local) (hA : i ∈ A)
    (hsw : swapsWith (.ListComp elt [⟨tg, iter, ifs, 0⟩] scope pos) (some (.Name y py)) spos.line X.env = pure true) (hi : PI X tg iter (TIr X.K W C k ss)) (ok : BlkOk X.N X.env.scope scope own)
    (hg : ∀ (s : Shared) (H : Hp) (C' : Addr) (cl : List (Str × Addr)) (fp : List Addr), PG (X.blk s H scope (compEnvC scope cl C' X.env) fp) tg (TGt X.K (own.map (·.2)) it)) (ht : ∀ (s : Shared) (H : Hp) (C' : Addr) (cl : List (Str × Addr)) (fp : List Addr), PTs (X.blk s H scope (compEnvC scope cl C' X.env) fp) ifs (TTs X.K WN C cs))
    (he : ∀ (s : Shared) (H : Hp) (C' : Addr) (cl : List (Str × Addr)) (fp : List Addr), PE (X.blk s H scope (compEnvC scope cl C' X.env) fp) elt (T X.K WN C ielt)) (hs : ∀ x, foldedSetIterable iter X.env x = pure x) :
    PS X (.Assign [.Name y py] (.ListComp elt [⟨tg, iter, ifs, 0⟩] scope pos) spos) (TSt X.K W C fu A (.set i (.comp k ss it cs (own.map (·.2)) ielt))) :=
  PS.weak (ps_setLc hc hN hy hyl hsw hi ok hg ht he hs) fun D s H ⟨σ, w, R, g, h⟩ => lc_read (set_end hA g h)
theorem t_comp {elt tg iter : Expr} {ifs : List Expr} {scope : Scope} {own : List (Str × Nat)} {pos : Pos} {k : SK} {ss cs : List E} {it : Tg} {ielt : E} (hc : X.calm = true) (hN : X.N.Nodup)
    (hi : PI X tg iter (TIr X.K W C k ss)) (ok : BlkOk X.N X.env.scope scope own)
    (hg : ∀ (s : Shared) (H : Hp) (C' : Addr) (cl : List (Str × Addr)) (fp : List Addr), PG (X.blk s H scope (compEnvC scope cl C' X.env) fp) tg (TGt X.K (own.map (·.2)) it)) (ht : ∀ (s : Shared) (H : Hp) (C' : Addr) (cl : List (Str × Addr)) (fp : List Addr), PTs (X.blk s H scope (compEnvC scope cl C' X.env) fp) ifs (TTs X.K WN C cs))
    (he : ∀ (s : Shared) (H : Hp) (C' : Addr) (cl : List (Str × Addr)) (fp : List Addr), PE (X.blk s H scope (compEnvC scope cl C' X.env) fp) elt (T X.K WN C ielt)) (hs : ∀ x, foldedSetIterable iter X.env x = pure x) :
    PE X (.ListComp elt [⟨tg, iter, ifs, 0⟩] scope pos) (T X.K W C (.comp k ss it cs (own.map (·.2)) ielt)) :=
  PE.weak (pe_lc hc hN hi ok hg ht he hs) fun s H Q h => lc_read h
theorem st_par {i j : Nat} {x y : Str} {a b : Expr} {ia ib : E} {px py pt pos : Pos} {kt k2 pt2} (hc : X.calm = true) (hN : X.N.Nodup) (hi : X.N[i]? = some x) (hj : X.N[j]? = some y) (hij : i ≠ j)
    (hx : X.env.scope.names.lookup x = some .local) (hy : X.env.scope.names.lookup y = some .local) (hA : i ∈ A ∧ j ∈ A) (ha : PA X [a, b] (TL X.K W C [ia, ib]))
    (hw : swappedStores [.Tuple [.Name x px, .Name y py] kt pt] (.Tuple [a, b] k2 pt2) X.env = pure (some [x, y]))
    (hs : swapsWithSole [.Tuple [.Name x px, .Name y py] kt pt] (.Tuple [a, b] k2 pt2) pos.line X.env = pure false) :
    PS X (.Assign [.Tuple [.Name x px, .Name y py] kt pt] (.Tuple [a, b] k2 pt2) pos) (TSt X.K W C fu A (.par [i, j] [ia, ib])) :=
  PS.weak (ps_par hc hN hi hj hij hx hy ha hw hs) fun D s H ⟨σ, w, R, g, h⟩ => by
    rw [execS] at h
    refine TL.ofS g (f := fun ps σ1 => if ps.length = [i, j].length then .nx (setL [i, j] ps σ1) else .bad) h fun ps σ1 vs H1 w1 wv g1 r1 hl t1 h1 => ?_
    match ps, hl, r1, h1 with
    | [p, q], _, r1, h1 =>
      rw [if_pos (by rfl)] at h1
      rw [RepPs] at r1
      obtain ⟨u, vs', wa, wb, rfl, rfl, ru, r1⟩ := r1
      rw [RepPs] at r1
      obtain ⟨v, vs'', wb1, wc, rfl, rfl, rv, r1⟩ := r1
      rw [RepPs] at r1
      obtain ⟨rfl, rfl⟩ := r1
      rw [List.append_nil] at g1 ru rv t1
      rw [List.append_assoc] at g1 ru rv
      refine ⟨u, v, rfl, ?_⟩
      obtain ⟨w2, g2, sub2⟩ := g1.set (i := i) (p := p) ru
      have mem : ∀ b, b ∈ w2 ++ (wb1 ++ R) → b ∈ w1 ++ (wa ++ (wb1 ++ R)) := fun b hb => by
        rcases List.mem_append.mp hb with z | z
        · rcases List.mem_append.mp (sub2 b z) with z | z
          · exact List.mem_append_left _ z
          · exact List.mem_append_right _ (List.mem_append_left _ z)
        · exact List.mem_append_right _ (List.mem_append_right _ z)
      obtain ⟨w3, g3, sub3⟩ := g2.set (i := j) (p := q) (RepP.ext (Ext.less mem) _ _ _ (fun _ _ _ z => z) rv)
      refine h1 _ _ ⟨w3, g3, t1.less fun b hb => ?_, fun r hr => ?_⟩
      · rcases List.mem_append.mp (sub3 b hb) with z | z
        · rcases List.mem_append.mp (sub2 b z) with z | z
          · exact List.mem_append_left _ z
          · exact List.mem_append_right _ (List.mem_append_left _ z)
        · exact List.mem_append_right _ (List.mem_append_right _ z)
      · rw [List.getElem?_set_ne (fun z => hr (by rw [← z]; exact hA.2)), List.getElem?_set_ne (fun z => hr (by rw [← z]; exact hA.1))]
theorem st_par3 {i j l : Nat} {x y z : Str} {a b c : Expr} {ia ib ic : E} {px py pz pt pos : Pos} {kt k2 pt2} (hc : X.calm = true) (hN : X.N.Nodup) (hi : X.N[i]? = some x) (hj : X.N[j]? = some y) (hl : X.N[l]? = some z) (hij : i ≠ j) (hil : i ≠ l) (hjl : j ≠ l)
    (hx : X.env.scope.names.lookup x = some .local) (hy : X.env.scope.names.lookup y = some .local) (hz : X.env.scope.names.lookup z = some .local) (hA : i ∈ A ∧ j ∈ A ∧ l ∈ A) (ha : PA X [a, b, c] (TL X.K W C [ia, ib, ic]))
    (hw : swappedStores [.Tuple [.Name x px, .Name y py, .Name z pz] kt pt] (.Tuple [a, b, c] k2 pt2) X.env = pure (some [x, y, z]))
    (hs : swapsWithSole [.Tuple [.Name x px, .Name y py, .Name z pz] kt pt] (.Tuple [a, b, c] k2 pt2) pos.line X.env = pure false) :
    PS X (.Assign [.Tuple [.Name x px, .Name y py, .Name z pz] kt pt] (.Tuple [a, b, c] k2 pt2) pos) (TSt X.K W C fu A (.par [i, j, l] [ia, ib, ic])) :=
  PS.weak (ps_par3 hc hN hi hj hl hij hil hjl hx hy hz ha hw hs) fun D s H ⟨σ, w, R, g, h⟩ => by
    rw [execS] at h
    refine TL.ofS g (f := fun ps σ1 => if ps.length = [i, j, l].length then .nx (setL [i, j, l] ps σ1) else .bad) h fun ps σ1 vs H1 w1 wv g1 r1 hl t1 h1 => ?_
    match ps, hl, r1, h1 with
    | [p, q, o], _, r1, h1 =>
      rw [if_pos (by rfl)] at h1
      rw [RepPs] at r1
      obtain ⟨u, vs', wa, wb, rfl, rfl, ru, r1⟩ := r1
      rw [RepPs] at r1
      obtain ⟨v, vs'', wb1, wc, rfl, rfl, rv, r1⟩ := r1
      rw [RepPs] at r1
      obtain ⟨t, vs3, wc1, wd, rfl, rfl, rt, r1⟩ := r1
      rw [RepPs] at r1
      obtain ⟨rfl, rfl⟩ := r1
      rw [List.append_nil] at g1 ru rv rt t1
      rw [List.append_assoc, List.append_assoc] at g1 ru rv rt
      refine ⟨u, v, t, rfl, ?_⟩
      obtain ⟨w2, g2, sub2⟩ := g1.set (i := i) (p := p) ru
      have mem : ∀ b, b ∈ w2 ++ (wb1 ++ (wc1 ++ R)) → b ∈ w1 ++ (wa ++ (wb1 ++ (wc1 ++ R))) := fun b hb => by
        rcases List.mem_append.mp hb with z | z
        · rcases List.mem_append.mp (sub2 b z) with z | z
          · exact List.mem_append_left _ z
          · exact List.mem_append_right _ (List.mem_append_left _ z)
        · exact List.mem_append_right _ (List.mem_append_right _ z)
      obtain ⟨w3, g3, sub3⟩ := g2.set (i := j) (p := q) (RepP.ext (Ext.less mem) _ _ _ (fun _ _ _ z => z) rv)
      have mem3 : ∀ b, b ∈ w3 ++ (wc1 ++ R) → b ∈ w2 ++ (wb1 ++ (wc1 ++ R)) := fun b hb => by
        rcases List.mem_append.mp hb with z | z
        · rcases List.mem_append.mp (sub3 b z) with z | z
          · exact List.mem_append_left _ z
          · exact List.mem_append_right _ (List.mem_append_left _ z)
        · exact List.mem_append_right _ (List.mem_append_right _ z)
      obtain ⟨w4, g4, sub4⟩ := g3.set (i := l) (p := o) (RepP.ext (Ext.less fun b hb => mem b (mem3 b hb)) _ _ _ (fun _ _ _ z => z) rt)
      refine h1 _ _ ⟨w4, g4, t1.less fun b hb => ?_, fun r hr => ?_⟩
      · rcases List.mem_append.mp (sub4 b hb) with z | z
        · rcases List.mem_append.mp (sub3 b z) with z | z
          · rcases List.mem_append.mp (sub2 b z) with z | z
            · exact List.mem_append_left _ z
            · exact List.mem_append_right _ (List.mem_append_left _ z)
          · exact List.mem_append_right _ (List.mem_append_right _ (List.mem_append_left _ z))
        · exact List.mem_append_right _ (List.mem_append_right _ (List.mem_append_right _ z))
      · rw [List.getElem?_set_ne (fun z => hr (by rw [← z]; exact hA.2.2)), List.getElem?_set_ne (fun z => hr (by rw [← z]; exact hA.2.1)), List.getElem?_set_ne (fun z => hr (by rw [← z]; exact hA.1))]
/-- for -/
theorem st_for {tg iter : Expr} {body : List Stmt} {k : SK} {ss : List E} {t : Tg} {ib : List S} {pos : Pos} (hp : PassesOwn (model X.prog X.w) X.A X.env X.xe) (hc : X.calm = true) (hi : PI X tg iter (TIr X.K W C k ss)) (hg : PG X tg (TGt X.K A t)) (hb : PSs X body (TSs X.K W C fu A ib))
    (hs : ∀ x, foldedSetIterable iter X.env x = pure x) : PS X (.For tg iter body [] pos) (TSt X.K W C fu A (.for_ k ss t ib)) :=
  PS.weak (ps_for hp hc hi hg hb hs) fun D s H ⟨σ, w, R, g, h⟩ => by
    rw [execS] at h
    refine ⟨σ, w, R, g, ?_⟩
    cases e1 : evalEs C ss σ with
    | bad => rw [e1] at h; exact h
    | exc c fs σ1 => rw [e1] at h; exact SOut.exc h
    | ok ps σ1 =>
      rw [e1] at h
      simp only at h
      cases e2 : itsOf k (frzs ps) with
      | none => rw [e2] at h; exact h.elim
      | some its =>
        rw [e2] at h
        refine ⟨its, e2, fun J G H1 w1 g1 t1 wd hG => ?_⟩
        simp only at h
        rw [Its.go_zero] at h
        generalize hf : (fun (x : Dat) (τ : Sto) => match asg t (.d x) τ with
          | some τ1 => execB C fu ib τ1
          | none => .bad) = f at h
        have hf' : ∀ x τ, f x τ = match asg t (.d x) τ with
          | some τ1 => execB C fu ib τ1
          | none => .bad := fun x τ => by rw [← hf]
        clear hf
        refine ⟨fun i m s3 H3 => m = its.len - i ∧ i ≤ its.len ∧ ∃ τ w3, Good X.K H3 τ s3 w3 R ∧ G H3 (w3 ++ R) ∧ SOut X.K W A D H3 s3 w3 R (its.goFrom f i τ), ⟨its.len, by simp, Nat.zero_le _, σ1, w1, g1, hG, h.step t1 fun _ _ => rfl⟩, ?_⟩
        rintro i m s3 H3 ⟨rfl, hil, τ, w3, g3, hG3, h3⟩
        by_cases hlt : i < its.len
        · obtain ⟨d, hd⟩ := its.at_some hlt
          refine .inr ⟨wd.goes i H3 _ hlt hG3, fun s4 H4 => ∃ τ w4, Good X.K H4 τ s4 w4 R ∧ G H4 (w4 ++ R) ∧ SOut X.K W A D H4 s4 w4 R (its.goFrom f (i + 1) τ), fun s4 H4 p' => ⟨its.len - (i + 1), by omega, rfl, hlt, p'⟩, fun x H4 y => ?_⟩
          obtain ⟨k4, rd⟩ := wd.yields i H3 _ x H4 d hd hG3 g3.mu y
          have g4 := g3.keep k4
          rw [Its.go_step hd, hf'] at h3
          cases ea : asg t (.d d) τ with
          | none => rw [ea] at h3; exact h3.elim
          | some τ1 =>
            rw [ea] at h3
            simp only at h3
            refine ⟨.d d, τ, w3, R, [], by simpa using g4, by rw [RepP]; exact ⟨rfl, by simpa using rd⟩, τ1, ea, fun s5 w5 g5 sub5 fr5 => ⟨τ1, w5, R, g5, ?_⟩⟩
            have t5 : Step w3 H3 w5 H4 := (Step.same k4).less fun b hb => by simpa using sub5 b hb
            have hG5 : G H4 (w5 ++ R) := wd.ext (Ext.less fun b hb => by
              rcases List.mem_append.mp hb with q | q
              · exact List.mem_append_left _ (by simpa using sub5 b q)
              · exact List.mem_append_right _ q) (wd.ext (Ext.new k4 g3.mu) hG3)
            have next : ∀ τ2, SOut X.K W A D H3 s3 w3 R (its.goFrom f (i + 1) τ2) → ∀ s6 H6, FinS X.K A H4 s5 w5 R τ2 s6 H6 → ∃ τ w4, Good X.K H6 τ s6 w4 R ∧ G H6 (w4 ++ R) ∧ SOut X.K W A D H6 s6 w4 R (its.goFrom f (i + 1) τ) := fun τ2 hh s6 H6 ⟨w6, g6, t6, f6⟩ =>
              ⟨τ2, w6, g6, wd.ext (g5.ext t6) hG5, hh.step (t5.trans t6) fun r hr => (f6 r hr).trans (fr5 r hr)⟩
            cases eb : execB C fu ib τ1 with
            | nx τ2 =>
              rw [eb] at h3
              exact next τ2 h3
            | cont τ2 =>
              rw [eb] at h3
              exact next τ2 h3
            | brk τ2 =>
              rw [eb] at h3
              exact fun s6 H6 f6 => h3 s6 H6 (f6.back t5 fr5)
            | ret p τ2 =>
              rw [eb] at h3
              exact SOut.step h3 t5 fr5
            | exc c fs τ2 =>
              rw [eb] at h3
              exact SOut.step h3 t5 fr5
            | bad =>
              rw [eb] at h3
              exact h3.elim
        · have e : i = its.len := by omega
          subst e
          rw [Its.go_end] at h3
          exact .inl ⟨wd.stops H3 _ hG3, h3 s3 H3 ⟨w3, g3, .refl, fun _ _ => rfl⟩⟩
theorem st_while {c : Expr} {body : List Stmt} {ic : E} {ib : List S} {pos : Pos} (hp : PassesOwn (model X.prog X.w) X.A X.env X.xe) (hc : PT X c (TT' X.K W C ic)) (hb : PSs X body (TSs X.K W C fu A ib)) : PS X (.While c body [] pos) (TSt X.K W C fu A (.wh ic ib)) :=
  PS.weak (ps_while hp hc hb) fun D s H ⟨σ, w, R, g, h⟩ => by
    rw [execS] at h
    refine ⟨fun m s3 H3 => ∃ τ w3, Good X.K H3 τ s3 w3 R ∧ SOut X.K W A D H3 s3 w3 R (whileF (fun τ => (evalE C ic τ).bind fun p τ1 => optR (truO p.frz) τ1) (execB C fu ib) m τ), ⟨fu, σ, w, g, h⟩, ?_⟩
    · rintro m s3 H3 ⟨τ, w3, g3, h3⟩
      cases m with
      | zero => exact h3.elim
      | succ m =>
        have h' : SOut X.K W A D H3 s3 w3 R (FRb ((evalE C ic τ).bind fun p τ1 => optR (truO p.frz) τ1) fun k σ' => if k = true then (match execB C fu ib σ' with
            | .nx σ2 => whileF (fun τ => (evalE C ic τ).bind fun p τ1 => optR (truO p.frz) τ1) (execB C fu ib) m σ2
            | .cont σ2 => whileF (fun τ => (evalE C ic τ).bind fun p τ1 => optR (truO p.frz) τ1) (execB C fu ib) m σ2
            | .brk σ2 => .nx σ2
            | r => r) else .nx σ') := by
          have e : (FRb ((evalE C ic τ).bind fun p τ1 => optR (truO p.frz) τ1) fun k σ' => if k = true then (match execB C fu ib σ' with
            | .nx σ2 => whileF (fun τ => (evalE C ic τ).bind fun p τ1 => optR (truO p.frz) τ1) (execB C fu ib) m σ2
            | .cont σ2 => whileF (fun τ => (evalE C ic τ).bind fun p τ1 => optR (truO p.frz) τ1) (execB C fu ib) m σ2
            | .brk σ2 => .nx σ2
            | r => r) else .nx σ') = whileF (fun τ => (evalE C ic τ).bind fun p τ1 => optR (truO p.frz) τ1) (execB C fu ib) (m + 1) τ := by
            rw [whileF]
            cases (evalE C ic τ).bind fun p τ1 => optR (truO p.frz) τ1 with
            | ok b σ' =>
              cases b
              · rfl
              · simp only [FRb, if_true]
                all_goals (cases execB C fu ib σ' <;> rfl)
            | exc c fs σ' => rfl
            | bad => rfl
          rw [e]
          exact h3
        refine TT'.ofS g3 h' fun b σ1 H4 w4 g4 t4 h4 => ?_
        cases b with
        | false =>
          rw [if_neg Bool.false_ne_true]
          exact h4 s3 H4 ⟨w4, g4, t4, fun _ _ => rfl⟩
        | true =>
          rw [if_pos rfl]
          rw [if_pos rfl] at h4
          refine ⟨fun s5 H5 => ∃ τ w5, Good X.K H5 τ s5 w5 R ∧ SOut X.K W A D H5 s5 w5 R (whileF (fun τ => (evalE C ic τ).bind fun p τ1 => optR (truO p.frz) τ1) (execB C fu ib) m τ), fun s5 H5 p => ⟨m, Nat.lt_succ_self m, p⟩, σ1, w4, R, g4, ?_⟩
          cases eb : execB C fu ib σ1 with
          | nx τ2 =>
            rw [eb] at h4
            exact fun s6 H6 ⟨w6, g6, t6, f6⟩ => ⟨τ2, w6, g6, SOut.step h4 (t4.trans t6) f6⟩
          | cont τ2 =>
            rw [eb] at h4
            exact fun s6 H6 ⟨w6, g6, t6, f6⟩ => ⟨τ2, w6, g6, SOut.step h4 (t4.trans t6) f6⟩
          | brk τ2 =>
            rw [eb] at h4
            exact fun s6 H6 f6 => h4 s6 H6 (f6.back t4 fun _ _ => rfl)
          | ret p τ2 =>
            rw [eb] at h4
            exact SOut.step h4 t4 fun _ _ => rfl
          | exc c fs τ2 =>
            rw [eb] at h4
            exact SOut.step h4 t4 fun _ _ => rfl
          | bad =>
            rw [eb] at h4
            exact h4.elim
end
end R

/-! A12: stores by place, exceptions, defs. -/
namespace R
open PySem PySem.Spec L2
open PyProof.Rows hiding St
section
variable {K : PySem.W.Frag} {W : WX} {C : CF} {fu : Nat} {A : List Nat} {D : Ends} {H H1 H2 H' : Hp} {s s1 s2 : St} {w w1 w2 R wv wv2 O O' : List Addr} {σ σ1 σ2 : Sto} {Q : VK} {X : Cx}
theorem setIxP_some {p q v : PV} {d : Dat} (h : setIxP p d v = some q) : ∃ xs i j, p = .lst xs ∧ d = .int i ∧ L2.ixN xs.length i = some j ∧ j < xs.length ∧ q = .lst (xs.set j v) := by
  cases p with
  | lst xs =>
    cases d with
    | int i =>
      cases ek : L2.ixN xs.length i with
      | none => simp [setIxP, ek] at h
      | some j =>
        by_cases hj : j < xs.length
        · simp [setIxP, ek, hj] at h
          exact ⟨xs, i, j, rfl, rfl, ek, hj, h.symm⟩
        · simp [setIxP, ek, hj] at h
    | _ => simp [setIxP] at h
  | _ => simp [setIxP] at h
theorem st_setix {x : Str} {r : Nat} {e i : Expr} {ie ii : E} {px tpos pos : Pos} (hN : X.N[r]? = some x) (hv : Vis X.env.scope x) (hd : (x == ("__debug__" : Str)) = false) (hcd : (x == ("__classdict__" : Str)) = false) (he : PE X e (T X.K W C ie)) (hi : PE X i (T X.K W C ii))
    (ha : ∀ v, assign (.Subscript (.Name x px) i tpos) X.env v = (do
      let ov ← holding [v] (eval (.Name x px) X.env)
      let iv ← holding [v, ov] (eval i X.env)
      standAt tpos
      holding [v, ov, iv] (setItem ov iv v)
      release [v, ov, iv] []))
    (hs : swapsWithSole [.Subscript (.Name x px) i tpos] e pos.line X.env = pure false) (hw : swappedStores [.Subscript (.Name x px) i tpos] e X.env = pure none) (h1 : (assignEach [.Subscript (.Name x px) i tpos] X.env).map (·.2) = [assign (.Subscript (.Name x px) i tpos) X.env]) :
    PS X (.Assign [.Subscript (.Name x px) i tpos] e pos) (TSt X.K W C fu A (.setix r ii ie)) :=
  PS.weak (ps_asg he (pg_sub (pe_var hN hv hd hcd) hi set_list ha) hs hw h1) fun D s H ⟨σ, w, R, g, h⟩ => by
    rw [execS] at h
    refine T.ofSD g h fun p σ1 v H1 w1 g1 r1 t1 h1 => ?_
    split at h1
    · rename_i q0 eq0
      obtain ⟨v0, _, _, e0, _⟩ := g1.slot eq0
      refine ⟨v0, e0, ?_⟩
      refine T.ofSD g1 (SOut.step h1 t1 fun _ _ => rfl) fun k σ2 kv H2 w2 g2 r2 t2 h2 => ?_
      split at h2
      · rename_i q eq
        cases es : setIxP q k.frz (.d p.frz) with
        | none => rw [es] at h2; exact h2.elim
        | some q' =>
          rw [es] at h2
          obtain ⟨xs, i0, j, rfl, hk, ek, _, rfl⟩ := setIxP_some es
          rw [hk] at r2
          cases r2.intV
          obtain ⟨l, us, wi, w', el, hl, rx, pm, upd1⟩ := g2.lst eq
          rw [e0] at el
          cases el
          have rv := RepD.ext (g1.ext t2) _ _ r1
          obtain ⟨wd, wo, rx', pm'⟩ := rx.setD (k := j) rv
          refine ⟨l, us, i0, j, rfl, rfl, hl, by rw [rx.length]; exact ek, ?_⟩
          obtain ⟨g', x', nl, mem⟩ := upd1 (xs.set j (.d p.frz)) (us.set j v) wd (wo ++ R) rx' (by
            rw [← List.append_assoc]
            exact List.Perm.append_right R pm')
          have hlw : l ∈ w2 := pm.mem_iff.mpr (by simp)
          refine h2 s _ ⟨_, g'.lessR (List.sublist_append_right _ _), t2.chg hl hlw fun b hb => ?_, fun _ _ => rfl⟩
          simp only [List.mem_append, List.mem_cons] at hb
          rcases hb with q | q | q
          · rw [q]; exact hlw
          · exact pm.mem_iff.mpr (by simp [pm'.mem_iff, q])
          · exact pm.mem_iff.mpr (by simp [q])
      · exact h2.elim
    · exact h1.elim

/-! ### exceptions with fields -/
/-- C(..) keeps its arguments in the fields ns -/
def spX (K : PySem.W.Frag) (C : Addr) (ns : List Str) : Sp := fun vs H Q _ => ∃ a ws, vs = .ref a :: ws ∧ ws.length = ns.length ∧ OexC K C ∧ (∀ f ∈ ns, PySem.W.findIn K (.ref C) f = some none) ∧ H a = some (exo a C none) ∧
  ∀ dx H', H dx = none → dx ≠ a → H' a = some (exo a C (some dx)) → H' dx = some (exd dx (ns.zip ws).reverse) → (∀ b, b ≠ a → b ≠ dx → H' b = H b) → Q .non H'
structure ExcK (X : Cx) (c : Str) (ns : List Str) : Prop where
  ox : OexC X.K (He.ga X.K c)
  mg : X.mg c = some (.ref (He.ga X.K c))
  no : ∀ f ∈ ns, PySem.W.findIn X.K (.ref (He.ga X.K c)) f = some none
  init : ∃ fI fd ps j, PySem.W.findIn X.K (.ref (He.ga X.K c)) "__init__" = some (some (.ref fI)) ∧ PySem.W.typeIn X.K (.ref fI) = some (.type "function") ∧ Binds X.K fd ps [] ∧ FnOk X.prog X.w X.K X.mg X.base (L2.CX X.prog X.w) j fI fd ps (spX X.K (He.ga X.K c) ns) ∧ Room (j + 1) X.A
theorem zip_lookup {O : List Addr} : ∀ {ns : List Str} {xs : List Dat} {vs : List V} {f : Str} {x : Dat}, ns.Nodup → RepDs K H O xs vs → (ns.zip xs).lookup f = some x → ns.length = xs.length → ∃ v, (ns.zip vs).reverse.lookup f = some v ∧ RepD K H O x v := by
  have key : ∀ {ns : List Str} {xs : List Dat} {vs : List V} {f : Str} {x : Dat}, RepDs K H O xs vs → (ns.zip xs).lookup f = some x → ∃ v, (f, v) ∈ ns.zip vs ∧ RepD K H O x v := by
    intro ns
    induction ns with
    | nil => intro xs vs f x _ h; simp at h
    | cons n ns ih =>
      intro xs vs f x r h
      cases xs with
      | nil => simp at h
      | cons y ys =>
        rw [RepDs] at r
        obtain ⟨v, vr, rfl, r1, r2⟩ := r
        simp only [List.zip_cons_cons, List.lookup_cons] at h
        by_cases z : (f == n) = true
        · rw [z] at h
          cases h
          have : f = n := by simpa using z
          subst this
          exact ⟨v, by simp, r1⟩
        · rw [Bool.eq_false_iff.mpr z] at h
          obtain ⟨v', hm, rv⟩ := ih r2 h
          exact ⟨v', by simp [hm], rv⟩
  intro ns xs vs f x nd r h hl
  obtain ⟨v, hm, rv⟩ := key r h
  refine ⟨v, ?_, rv⟩
  have nd2 : ((ns.zip vs).reverse.map (·.1)).Nodup := by
    rw [List.map_reverse, (List.reverse_perm _).nodup_iff]
    rw [List.map_fst_zip (by rw [r.length]; omega)]
    exact nd
  have find : ∀ {l : List (Str × V)}, (l.map (·.1)).Nodup → (f, v) ∈ l → l.lookup f = some v := by
    intro l
    induction l with
    | nil => intro _ h; cases h
    | cons p l ih =>
      intro nd h
      obtain ⟨k, u⟩ := p
      rw [List.lookup_cons]
      rcases List.mem_cons.mp h with q | q
      · cases q
        simp
      · have hne : f ≠ k := fun z => by
          have := (List.nodup_cons.mp nd).1
          exact this (List.mem_map.mpr ⟨(f, v), q, z⟩)
        rw [show (f == k) = false from by simpa using hne]
        exact ih (List.nodup_cons.mp nd).2 q
  exact find nd2 (List.mem_reverse.mpr hm)
theorem st_raise {c : Str} {ns : List Str} {e : Expr} {es : List Expr} {is : List E} {p pos pos' : Pos} (hc : X.calm = true) (tk : Takes X W) (ex : ExcK X c ns) (hg : Gl X c) (hd : (c == ("__debug__" : Str)) = false) (nd : ns.Nodup) (hl : ns.length ≤ 900)
    (ha : PA X (e :: es) (TL X.K W C is)) (hs : (e :: es).all notStar = true) : PS X (.Raise (some (.Call (.Name c p) (e :: es) [] pos)) none pos') (TSt X.K W C fu A (.raise c ns is)) := by
  obtain ⟨fI, fd, ps, j, iC, tI, hb, F, hr⟩ := ex.init
  have h' : notStar e = true ∧ es.all notStar = true := by simpa using hs
  refine PS.weak (ps_raise hc tk (pmk_oex (ds := []) (dvs := []) ex.ox iC tI F hr hb .nil (fun _ _ _ _ _ _ _ h => by
    obtain ⟨_, _, _, _, _, _, _, _, _, _, _, _, z⟩ := h
    exact z.elim) hg ex.mg ha hd (star_eq h'.1 _ _) (noStars h'.2))) fun D s H ⟨σ, w, R, g, h⟩ => ?_
  rw [execS] at h
  refine TL.ofS g (f := fun ps σ1 => if ns.length = ps.length then .exc c (ns.zip (frzs ps)) σ1 else .bad) h fun ps σ1 vs H1 w1 wv g1 r1 hlen t1 h1 => ?_
  by_cases hz : ns.length = ps.length
  · rw [if_pos hz] at h1
    obtain ⟨g2, r2⟩ := g1.frzL r1
    have t2 : Step w H w1 H1 := t1.less fun b hb => List.mem_append_left _ hb
    refine ⟨by rw [r1.length]; omega, fun a na => ⟨a, vs ++ [], rfl, by rw [List.append_nil, r1.length, hz], ex.ox, ex.no, upd_same, fun dx H2 hdx ne ha hdx2 rest => ⟨rfl, dx, _, ha, hdx2, ?_, ?_⟩⟩⟩
    · rw [upd_ne ne] at hdx
      exact hdx
    · rw [List.append_nil]
      have hdx0 : H1 dx = none := by
        rw [upd_ne ne] at hdx
        exact hdx
      have kp : ∀ b o, H1 b = some o → upd (del H2 a) dx (.xd (ns.zip vs).reverse) b = some o := fun b o e => by
        have hba : b ≠ a := fun z => by rw [z, na] at e; cases e
        have hbd : b ≠ dx := fun z => by rw [z, hdx0] at e; cases e
        rw [upd_ne hbd, del_ne hba, rest b hba hbd, upd_ne hba]
        exact e
      refine h1 s _ _ _ (fun _ _ => rfl) ⟨w1, g2.keep kp, t2.trans (Step.same kp), rfl, dx, _, rfl, upd_same, fun f x z => ?_⟩
      obtain ⟨v, e1, rv⟩ := zip_lookup nd r2 z (by rw [frzs_length]; exact hz)
      exact ⟨v, e1, RepD.ext (Ext.new kp g2.mu) _ _ rv⟩
  · rw [if_neg hz] at h1
    exact h1.elim
end
end R

/-! A13: defs as promises; __init__ of exceptions; try. -/
namespace R
open PySem PySem.Spec L2
open PyProof.Rows hiding St
section
variable {K : PySem.W.Frag} {W : WX} {C : CF} {fu : Nat} {A : List Nat} {D : Ends} {H H1 H2 H' : Hp} {s s1 s2 : St} {w w1 w2 R wv wv2 O O' : List Addr} {σ σ1 σ2 : Sto} {Q : VK} {X : Cx}
/-! ### arguments in, arguments out -/
theorem fixA_ok {asg : List Nat} : ∀ {as : List PV} {vs : List V} {w : List Addr} (k : Nat), RepPs K H O as vs w → ∃ w' wd, w.Perm (wd ++ w') ∧ ∀ O', (∀ b ∈ O', b ∈ O ∧ b ∉ wd) → RepPs K H O' (fixA asg k as) vs w'
  | [], vs, w, k, h => by
    rw [RepPs] at h
    obtain ⟨rfl, rfl⟩ := h
    exact ⟨[], [], List.Perm.refl _, fun O' _ => by rw [fixA, RepPs]; exact ⟨rfl, rfl⟩⟩
  | p :: as, vs, w, k, h => by
    rw [RepPs] at h
    obtain ⟨v, r, w1, w2, rfl, rfl, h1, h2⟩ := h
    obtain ⟨w', wd, pm, ih⟩ := fixA_ok (k + 1) h2
    by_cases hk : k ∈ asg
    · refine ⟨w', w1 ++ wd, by rw [List.append_assoc]; exact List.Perm.append_left w1 pm, fun O' hO => ?_⟩
      rw [fixA, if_pos hk, RepPs]
      refine ⟨v, r, [], w', rfl, rfl, ?_, ih O' fun b hb => ⟨(hO b hb).1, fun z => (hO b hb).2 (List.mem_append_right _ z)⟩⟩
      rw [RepP]
      exact ⟨rfl, RepP.frz _ _ _ h1 fun b hb => ⟨(hO b hb).1, fun z => (hO b hb).2 (List.mem_append_left _ z)⟩⟩
    · refine ⟨w1 ++ w', wd, ?_, fun O' hO => ?_⟩
      · refine (List.Perm.append_left w1 pm).trans ?_
        rw [← List.append_assoc, ← List.append_assoc]
        exact List.Perm.append_right w' List.perm_append_comm
      · rw [fixA, if_neg hk, RepPs]
        exact ⟨v, r, w1, w', rfl, rfl, RepP.ext (Ext.less fun b hb => (hO b hb).1) _ _ _ (fun _ _ _ q => q) h1, ih O' hO⟩
theorem fixA_len {asg : List Nat} : ∀ (k : Nat) (as : List PV), (fixA asg k as).length = as.length
  | _, [] => rfl
  | k, p :: r => by rw [fixA, List.length_cons, List.length_cons, fixA_len (k + 1) r]
theorem RepPs.slots : ∀ {ps : List PV} {vs : List V} {w : List Addr} (n : Nat), RepPs K H O ps vs w → RepS0 K H O (ps.map some ++ List.replicate n none) (vs.map some ++ List.replicate n none) w
  | [], vs, w, n, h => by
    rw [RepPs] at h
    obtain ⟨rfl, rfl⟩ := h
    simp only [List.map_nil, List.nil_append]
    induction n with
    | zero => rw [List.replicate_zero, List.replicate_zero, RepS0]; exact ⟨rfl, rfl⟩
    | succ n ih => rw [List.replicate_succ, List.replicate_succ, RepS0]; exact ⟨_, _, rfl, ih⟩
  | p :: ps, vs, w, n, h => by
    rw [RepPs] at h
    obtain ⟨v, r, w1, w2, rfl, rfl, h1, h2⟩ := h
    rw [List.map_cons, List.map_cons, List.cons_append, List.cons_append, RepS0]
    exact ⟨v, _, w1, w2, rfl, rfl, h1, RepPs.slots n h2⟩
/-- the parameters' values as they stand in the frame: the assigned ones as data told -/
def DatAt (K : PySem.W.Frag) (H : Hp) (O : List Addr) (asg : List Nat) (s : St) : Nat → List PV → List V → Prop
  | _, [], vs => vs = []
  | k, p :: ps, vs => ∃ v r, vs = v :: r ∧ (k ∈ asg → ∃ x, p = .d x ∧ RepD K H O x v) ∧ (k ∉ asg → s[k]? = some (some v)) ∧ DatAt K H O asg s (k + 1) ps r
theorem outA_set {asg : List Nat} : ∀ {ps : List PV} {σ : Sto} {k j : Nat}, j < k → outA asg (σ.set j none) k ps = outA asg σ k ps
  | [], _, _, _, _ => rfl
  | p :: ps, σ, k, j, h => by
    rw [outA, outA, outA_set (Nat.lt_succ_of_lt h), List.getElem?_set_ne (Nat.ne_of_lt h)]
theorem outA_ok {asg : List Nat} : ∀ {ps : List PV} {vs : List V} {k : Nat} {σ : Sto} {w : List Addr} {os : List PV}, RepS K H O σ s w → DatAt K H O asg s k ps vs → outA asg σ k ps = some os → ∃ wo wr, RepPs K H O os vs wo ∧ w.Perm (wo ++ wr)
  | [], vs, k, σ, w, os, hs, hd, h => by
    rw [outA] at h
    cases h
    have : vs = [] := hd
    subst this
    exact ⟨[], w, by rw [RepPs]; exact ⟨rfl, rfl⟩, List.Perm.refl _⟩
  | p :: ps, vs, k, σ, w, os, hs, hd, h => by
    obtain ⟨v, r, rfl, h1, h2, hd⟩ := hd
    rw [outA] at h
    by_cases hk : k ∈ asg
    · rw [if_pos hk] at h
      obtain ⟨x, rfl, rx⟩ := h1 hk
      cases e : outA asg σ (k + 1) ps with
      | none => rw [e] at h; cases h
      | some qs =>
        rw [e] at h
        cases h
        obtain ⟨wo, wr, r1, pm⟩ := outA_ok hs hd e
        exact ⟨wo, wr, by rw [RepPs]; exact ⟨v, r, [], wo, rfl, rfl, by rw [RepP]; exact ⟨rfl, rx⟩, r1⟩, pm⟩
    · rw [if_neg hk] at h
      cases eq : σ[k]? with
      | none => rw [eq] at h; cases h
      | some o =>
        cases o with
        | none => rw [eq] at h; cases h
        | some q =>
          rw [eq] at h
          obtain ⟨v', wq, w', es, rp, rs, pm⟩ := hs.take eq
          rw [h2 hk] at es
          cases es
          cases e : outA asg σ (k + 1) ps with
          | none => rw [e] at h; cases h
          | some qs =>
            rw [e] at h
            cases h
            rw [← outA_set (Nat.lt_succ_self k)] at e
            obtain ⟨wo, wr, r1, pm1⟩ := outA_ok rs hd e
            refine ⟨wq ++ wo, wr, by rw [RepPs]; exact ⟨v, r, wq, wo, rfl, rfl, rp, r1⟩, ?_⟩
            rw [List.append_assoc]
            exact pm.trans (List.Perm.append_left wq pm1)
theorem datAt_ok {asg : List Nat} {as0 : List PV} : ∀ {as : List PV} {vs pre : List V} {w : List Addr} {n : Nat}, RepPs K H O (fixA asg pre.length as) vs w → (∀ j v, j ∉ asg → j < (pre ++ vs).length → (pre ++ vs)[j]? = some v → s[j]? = some (some v)) → DatAt K H O asg s pre.length (fixA asg pre.length as) vs
  | [], vs, pre, w, n, h, _ => by
    rw [fixA, RepPs] at h
    exact h.1
  | p :: as, vs, pre, w, n, h, hs => by
    rw [fixA] at h ⊢
    rw [RepPs] at h
    obtain ⟨v, r, w1, w2, rfl, rfl, h1, h2⟩ := h
    refine ⟨v, r, rfl, fun hk => ?_, fun hk => hs _ v hk (by simp) (by simp), ?_⟩
    · rw [if_pos hk] at h1 ⊢
      rw [RepP] at h1
      exact ⟨_, rfl, h1.2⟩
    · have e : pre.length + 1 = (pre ++ [v]).length := by simp
      rw [e] at h2 ⊢
      exact datAt_ok (n := n) (as0 := as0) h2 fun j u hj hl hu => hs j u hj (by simpa using hl) (by simpa using hu)
theorem DatAt.ext {asg : List Nat} {s' : St} (x : Ext K H O H' O') : ∀ {ps : List PV} {vs : List V} {k : Nat}, (∀ j, j ∉ asg → j < k + ps.length → s'[j]? = s[j]?) → DatAt K H O asg s k ps vs → DatAt K H' O' asg s' k ps vs
  | [], vs, k, _, h => h
  | p :: ps, vs, k, hs, h => by
    obtain ⟨v, r, rfl, h1, h2, hd⟩ := h
    refine ⟨v, r, rfl, fun hk => ?_, fun hk => (hs k hk (by simp)).trans (h2 hk), DatAt.ext x (fun j hj hl => hs j hj (by simp at hl ⊢; omega)) hd⟩
    obtain ⟨y, e, ry⟩ := h1 hk
    exact ⟨y, e, RepD.ext x _ _ ry⟩
/-! ### the rule for a def -/
/-- what a def's text is to be, to be run by its IR -/
theorem fn_of_ir {P : Program} {w : World} {K : PySem.W.Frag} {mg : Str → Option Value} {base : Heap} {x qual : Str} {params : Arguments} {body : List Stmt} {scope : Scope} {f : Addr} {fd : FuncData} {N ps : List Str} {k : Nat} {C C' : CF} {i fu : Nat} {ir : FnD} {A : List Nat}
    (F : FunD K x qual params body scope [] [] f fd) (S : FnScope N ps scope) (hnp : ps.length = ir.np) (hns : N.length = ir.ns) (hA : ∀ j ∈ A, j < ir.np → j ∈ ir.asg) (hC : ∀ as, C i as = runFn C' fu ir as)
    (hbody : ∀ (cdv : Value) (A' : Around) (outer : List Env) (s : Shared) (H : Hp) (E : XK), Room k (A'.deeper (envOfC qual scope s.heap.objs.size f cdv)) → PSs (cxOf (L2.CX P w) P w K mg base N qual scope f cdv A' outer s H E) body (TSs K (fun cls d _ H => E cls d H) C' fu A ir.body)) :
    FnOk P w K mg base (L2.CX P w) (k + 1) f fd ps (spOf K C i ps.length) := by
  refine F.ok S (fun vs H Q E h => ?_) fun cdv A' outer s H vs Q E hr hsp => ⟨_, hbody cdv A' outer s H E hr, ?_⟩
  · obtain ⟨as, w, R, hl, _⟩ := h
    exact hl
  · obtain ⟨as, w, R, hl, ra, nd, mu, hc⟩ := hsp
    rw [hC, runFn] at hc
    have hal : as.length = ir.np := by rw [← ra.length, hl, hnp]
    rw [if_pos hal] at hc
    obtain ⟨w', wd, pm, fx⟩ := fixA_ok (asg := ir.asg) 0 ra
    have pmO : (w ++ R).Perm (wd ++ (w' ++ R)) := by
      rw [← List.append_assoc]
      exact List.Perm.append_right R pm
    have nd2 := pmO.nodup_iff.mp nd
    have memO : ∀ b, b ∈ w' ++ R → b ∈ w ++ R := fun b hb => pmO.mem_iff.mpr (List.mem_append_right _ hb)
    have rf := fx (w' ++ R) fun b hb => ⟨memO b hb, fun z => nd_disj nd2 z hb⟩
    generalize hfa : fixA ir.asg 0 as = fa at hc rf
    have hfl : fa.length = ir.np := by rw [← hfa, fixA_len, hal]
    have est : L2.start N vs = vs.map some ++ List.replicate (ir.ns - ir.np) none := by
      unfold L2.start
      rw [hns, hl, hnp]
    have g0 : Good K H (fa.map some ++ List.replicate (ir.ns - ir.np) none) (L2.start N vs) w' R := by
      rw [est]
      exact ⟨⟨w', rf.slots _, List.Perm.refl _⟩, (List.nodup_append.mp nd2).2.1, fun b hb => mu b (memO b hb)⟩
    have sub : ∀ b ∈ w', b ∈ w := fun b hb => pm.mem_iff.mpr (List.mem_append_right _ hb)
    -- the parameters' slots
    have hst : ∀ j v, j < vs.length → vs[j]? = some v → (L2.start N vs)[j]? = some (some v) := fun j v hj e => by
      rw [est, List.getElem?_append_left (by simpa using hj), List.getElem?_map, e]
      rfl
    have dat : DatAt K H (w' ++ R) ir.asg (L2.start N vs) 0 fa vs := by
      rw [← hfa] at rf ⊢
      exact datAt_ok (pre := []) (n := 0) (as0 := as) rf fun j v _ hj e => hst j v (by simpa using hj) (by simpa using e)
    have frame : ∀ {s' : St}, (∀ r, r ∉ A → s'[r]? = (L2.start N vs)[r]?) → ∀ j, j ∉ ir.asg → j < 0 + fa.length → s'[j]? = (L2.start N vs)[j]? := fun {s'} fr j hj hl => fr j fun z => hj (hA j z (by omega))
    have stepw : ∀ {w2 : List Addr} {H' : Hp}, Step w' H w2 H' → Step w H w2 H' := fun {w2 H'} t => ⟨fun b o e n => t.keep b o e fun z => n (sub b z), fun b hb => (t.old b hb).imp (sub b) id⟩
    -- a return
    have ret : ∀ (pv : PV) (σ' : Sto) (s' : St) (v : V) (H' : Hp) (w2 wv : List Addr), (match retC ir.asg fa σ' pv with
        | .ok pv as' => ∀ v H' w' wv, RepPs K H' (w' ++ (wv ++ R)) as' vs w' → RepP K H' (w' ++ (wv ++ R)) pv v wv → (w' ++ (wv ++ R)).Nodup → (∀ b ∈ w' ++ (wv ++ R), Mut (H' b)) → Step w H (w' ++ wv) H' → Q v H'
        | .exc c fs as' => ∀ cls d H' w', RepPs K H' (w' ++ R) as' vs w' → (w' ++ R).Nodup → (∀ b ∈ w' ++ R, Mut (H' b)) → Step w H w' H' → ExcAt K H' (w' ++ R) c fs cls d → E cls d H'
        | .bad => False) → Good K H' σ' s' w2 (wv ++ R) → RepP K H' (w2 ++ (wv ++ R)) pv v wv → Step w' H (w2 ++ wv) H' → (∀ r, r ∉ A → s'[r]? = (L2.start N vs)[r]?) → Q v H' := by
      intro pv σ' s' v H' w2 wv hq g' rp t' fr
      unfold retC at hq
      cases eo : outA ir.asg σ' 0 fa with
      | none => rw [eo] at hq; exact hq.elim
      | some os =>
        rw [eo] at hq
        have d2 : DatAt K H' (w2 ++ (wv ++ R)) ir.asg s' 0 fa vs := DatAt.ext (g0.pend t').1 (frame fr) dat
        obtain ⟨wo, wr, ro, pm2⟩ := outA_ok g'.rep d2 eo
        have pm3 : (w2 ++ (wv ++ R)).Perm (wr ++ (wo ++ (wv ++ R))) := by
          refine (List.Perm.append_right _ (pm2.trans List.perm_append_comm)).trans ?_
          rw [List.append_assoc]
        have mem : ∀ b, b ∈ wo ++ (wv ++ R) → b ∈ w2 ++ (wv ++ R) := fun b hb => pm3.mem_iff.mpr (List.mem_append_right _ hb)
        refine hq v H' wo wv (RepPs.ext (Ext.less mem) _ _ _ (fun _ _ _ q => q) ro) (RepP.ext (Ext.less mem) _ _ _ (fun _ _ _ q => q) rp) (List.nodup_append.mp (pm3.nodup_iff.mp g'.nd)).2.1 (fun b hb => g'.mu b (mem b hb)) ((stepw t').less fun b hb => ?_)
        rcases List.mem_append.mp hb with q | q
        · exact List.mem_append_left _ (pm2.mem_iff.mpr (List.mem_append_left _ q))
        · exact List.mem_append_right _ q
    refine ⟨_, w', R, g0, ?_⟩
    cases eb : execB C' fu ir.body (fa.map some ++ List.replicate (ir.ns - ir.np) none) with
    | nx σ' =>
      rw [eb] at hc
      rintro s' H' ⟨w2, g', t', fr⟩
      exact ret (.d .non) σ' s' .non H' w2 [] hc (by simpa using g') (by rw [RepP]; exact ⟨rfl, by rw [RepD]⟩) (by simpa using t') fr
    | ret p σ' =>
      rw [eb] at hc
      exact fun s' v H' w2 wv g' rp t' fr => ret p σ' s' v H' w2 wv hc g' rp t' fr
    | brk σ' => rw [eb] at hc; exact hc.elim
    | cont σ' => rw [eb] at hc; exact hc.elim
    | bad => rw [eb] at hc; exact hc.elim
    | exc c fs σ' =>
      rw [eb] at hc
      rintro s' cls d H' fr ⟨w2, g', t', xe⟩
      have hc' : (match (match outA ir.asg σ' 0 fa with
          | some os => CRes.exc c fs os
          | none => .bad) with
        | .ok pv as' => ∀ v H' w' wv, RepPs K H' (w' ++ (wv ++ R)) as' vs w' → RepP K H' (w' ++ (wv ++ R)) pv v wv → (w' ++ (wv ++ R)).Nodup → (∀ b ∈ w' ++ (wv ++ R), Mut (H' b)) → Step w H (w' ++ wv) H' → Q v H'
        | .exc c fs as' => ∀ cls d H' w', RepPs K H' (w' ++ R) as' vs w' → (w' ++ R).Nodup → (∀ b ∈ w' ++ R, Mut (H' b)) → Step w H w' H' → ExcAt K H' (w' ++ R) c fs cls d → E cls d H'
        | .bad => False) := hc
      cases eo : outA ir.asg σ' 0 fa with
      | none => rw [eo] at hc'; exact hc'.elim
      | some os =>
        rw [eo] at hc'
        have d2 : DatAt K H' (w2 ++ R) ir.asg s' 0 fa vs := DatAt.ext (g0.ext t') (frame fr) dat
        obtain ⟨wo, wr, ro, pm2⟩ := outA_ok g'.rep d2 eo
        have pm3 : (w2 ++ R).Perm (wr ++ (wo ++ R)) := by
          refine (List.Perm.append_right _ (pm2.trans List.perm_append_comm)).trans ?_
          rw [List.append_assoc]
        have mem : ∀ b, b ∈ wo ++ R → b ∈ w2 ++ R := fun b hb => pm3.mem_iff.mpr (List.mem_append_right _ hb)
        exact hc' cls d H' wo (RepPs.ext (Ext.less mem) _ _ _ (fun _ _ _ q => q) ro) (List.nodup_append.mp (pm3.nodup_iff.mp g'.nd)).2.1 (fun b hb => g'.mu b (mem b hb)) ((stepw t').less fun b hb => pm2.mem_iff.mpr (List.mem_append_left _ hb)) (xe.less mem)
end
end R

/-! A14: __init__ of exceptions; try. -/
namespace R
open PySem PySem.Spec L2
open PyProof.Rows hiding St
section
variable {K : PySem.W.Frag} {W : WX} {C : CF} {fu : Nat} {A : List Nat} {D : Ends} {H H1 H2 H' : Hp} {s s1 s2 : St} {w w1 w2 R wv wv2 O O' : List Addr} {σ σ1 σ2 : Sto} {Q : VK} {X : Cx}
theorem init1 {P : Program} {w : World} {mg : Str → Option Value} {base : Heap} {x qual sf f : Str} {params : Arguments} {scope : Scope} {fI Cl : Addr} {fd : FuncData} {k : Nat} {p1 p2 p3 p4 : Pos}
    (F : FunD K x qual params [.Assign [.Attribute (.Name sf p1) f p2] (.Name f p3) p4] scope [] [] fI fd) (S : FnScope [sf, f] [sf, f] scope) (h0 : Vis scope sf) (h1 : Vis scope f)
    (d0 : (sf == ("__debug__" : Str)) = false) (c0 : (sf == ("__classdict__" : Str)) = false) (d1 : (f == ("__debug__" : Str)) = false) (c1 : (f == ("__classdict__" : Str)) = false) :
    FnOk P w K mg base (L2.CX P w) (k + 1) fI fd [sf, f] (spX K Cl [f]) := by
  refine F.ok S (fun vs H Q E ⟨a, ws, e, l, _⟩ => by rw [e, List.length_cons, l]; rfl) fun cdv A' outer s H vs Q E hr ⟨a, ws, e, l, ox, no, ha, q⟩ => ?_
  refine ⟨_, pss_one (ps_ost (pe_var (i := 0) rfl h0 d0 c0) (pe_var (i := 1) rfl h1 d1 c1) rfl), ?_⟩
  match ws, l with
  | [v], _ =>
    subst e
    refine ⟨v, rfl, .ref a, rfl, a, Cl, rfl, ox, no f (by simp), .inl ⟨ha, fun dx hd ne => ?_⟩⟩
    refine q dx _ hd ne upd_same ?_ fun b hb hd' => ?_
    · rw [upd_ne ne, upd_same]
      rfl
    · rw [upd_ne hb, upd_ne hd']
theorem init2 {P : Program} {w : World} {mg : Str → Option Value} {base : Heap} {x qual sf f g : Str} {params : Arguments} {scope : Scope} {fI Cl : Addr} {fd : FuncData} {k : Nat} {p1 p2 p3 p4 q1 q2 q3 q4 : Pos}
    (F : FunD K x qual params [.Assign [.Attribute (.Name sf p1) f p2] (.Name f p3) p4, .Assign [.Attribute (.Name sf q1) g q2] (.Name g q3) q4] scope [] [] fI fd) (S : FnScope [sf, f, g] [sf, f, g] scope) (h0 : Vis scope sf) (h1 : Vis scope f) (h2 : Vis scope g)
    (d0 : (sf == ("__debug__" : Str)) = false) (c0 : (sf == ("__classdict__" : Str)) = false) (d1 : (f == ("__debug__" : Str)) = false) (c1 : (f == ("__classdict__" : Str)) = false) (d2 : (g == ("__debug__" : Str)) = false) (c2 : (g == ("__classdict__" : Str)) = false) :
    FnOk P w K mg base (L2.CX P w) (k + 1) fI fd [sf, f, g] (spX K Cl [f, g]) := by
  refine F.ok S (fun vs H Q E ⟨a, ws, e, l, _⟩ => by rw [e, List.length_cons, l]; rfl) fun cdv A' outer s H vs Q E hr ⟨a, ws, e, l, ox, no, ha, q⟩ => ?_
  refine ⟨_, pss_cons (ps_ost (pe_var (i := 0) rfl h0 d0 c0) (pe_var (i := 1) rfl h1 d1 c1) rfl) (pss_one (ps_ost (pe_var (i := 0) rfl h0 d0 c0) (pe_var (i := 2) rfl h2 d2 c2) rfl)), ?_⟩
  match ws, l with
  | [v, u], _ =>
    subst e
    refine ⟨v, rfl, .ref a, rfl, a, Cl, rfl, ox, no f (by simp), .inl ⟨ha, fun dx hd ne => ?_⟩⟩
    refine ⟨u, rfl, .ref a, rfl, a, Cl, rfl, ox, no g (by simp), .inr ⟨dx, [(f, v)], upd_same, ?_, by simp, ?_⟩⟩
    · rw [upd_ne ne, upd_same]
    · refine q dx _ hd ne ?_ ?_ fun b hb hd' => ?_
      · rw [upd_ne (Ne.symm ne), upd_same]
      · rw [upd_same]
        rfl
      · rw [upd_ne hd', upd_ne hb, upd_ne hd']

/-! ### what an except suite returns -/
/-- the reading of h: a the caught one, its class one of L -/
def TH (K : PySem.W.Frag) (a : Addr) (cls : Value) (d : Option Addr) (L : List Str) (i : Nat) (h : HE) : TE := fun s H Q => ∃ c fs O z, c ∈ L ∧ s[i]? = some (some (.ref a)) ∧ (∀ b ∈ O, Mut (H b)) ∧ ExcAt K H O c fs cls d ∧ evalH fs h = some z ∧ ∀ v H', (∀ b o, H b = some o → H' b = some o) → RepD K H' O z v → Q v H'
def THs (K : PySem.W.Frag) (a : Addr) (cls : Value) (d : Option Addr) (L : List Str) (i : Nat) (hs : List HE) : TA := fun s H Q => ∃ c fs O zs, c ∈ L ∧ s[i]? = some (some (.ref a)) ∧ (∀ b ∈ O, Mut (H b)) ∧ ExcAt K H O c fs cls d ∧ evalHs fs hs = some zs ∧ ∀ vs H', (∀ b o, H b = some o → H' b = some o) → RepDs K H' O zs vs → Q vs H'
/-- .. of a guard -/
def TG (K : PySem.W.Frag) (a : Addr) (cls : Value) (d : Option Addr) (L : List Str) (i : Nat) (g : HG) : TT := fun s H Q => ∃ c fs O b, c ∈ L ∧ s[i]? = some (some (.ref a)) ∧ (∀ b ∈ O, Mut (H b)) ∧ ExcAt K H O c fs cls d ∧ evalG c g = some b ∧ Q b H
/-- .. of a suite -/
def TSu (K : PySem.W.Frag) (a : Addr) (cls : Value) (d : Option Addr) (L : List Str) (i : Nat) (hs : List (Option HG × HE)) : TS := fun D s H => ∃ c fs O z, c ∈ L ∧ s[i]? = some (some (.ref a)) ∧ (∀ b ∈ O, Mut (H b)) ∧ ExcAt K H O c fs cls d ∧ evalHG c fs hs = some z ∧
  match z with
  | some z => ∀ v H', (∀ b o, H b = some o → H' b = some o) → RepD K H' O z v → D.rt v H'
  | none => D.nx s H
theorem ExcAt.ext {c : Str} {fs : List (Str × Dat)} {cls : Value} {d : Option Addr} (k : ∀ b o, H b = some o → H' b = some o) (mu : ∀ b ∈ O, Mut (H b)) (x : ExcAt K H O c fs cls d) : ExcAt K H' O c fs cls d := by
  obtain ⟨e, dd, fv, e1, e2, r⟩ := x
  refine ⟨e, dd, fv, e1, k _ _ e2, fun f y z => ?_⟩
  obtain ⟨v, h1, h2⟩ := r f y z
  exact ⟨v, h1, RepD.ext (Ext.new k mu) _ _ h2⟩
theorem mu_keep (k : ∀ b o, H b = some o → H' b = some o) (mu : ∀ b ∈ O, Mut (H b)) : ∀ b ∈ O, Mut (H' b) := fun b hb => by
  have m := mu b hb
  obtain ⟨o, e⟩ := Mut.some m
  rw [k b o e, ← e]
  exact m
section
variable {a : Addr} {cls : Value} {d : Option Addr} {L : List Str} {i : Nat}
theorem th_lit {e : Expr} {x : Dat} {v : V} (he : PE X e (tC v)) (r : ∀ H O, RepD X.K H O x v) : PE X e (TH X.K a cls d L i (.lit x)) := PE.weak he fun s H Q ⟨c, fs, O, z, hL, hs, mu, ex, ev, q⟩ => by
  rw [evalH] at ev
  cases ev
  exact q v H (fun _ _ e => e) (r H O)
theorem ths_nil : PA X [] (THs X.K a cls d L i []) := PA.weak pa_nil fun s H Q ⟨c, fs, O, z, hL, hs, mu, ex, ev, q⟩ => by
  rw [evalHs] at ev
  cases ev
  exact q [] H (fun _ _ e => e) (by rw [RepDs])
theorem ths_cons {e : Expr} {es : List Expr} {h : HE} {hs : List HE} (he : PE X e (TH X.K a cls d L i h)) (hr : PA X es (THs X.K a cls d L i hs)) (hst : notStar e = true) : PA X (e :: es) (THs X.K a cls d L i (h :: hs)) :=
  PA.weak (pa_cons he hr (star_eq hst es X.env)) fun s H Q ⟨c, fs, O, zs, hL, hsl, mu, ex, ev, q⟩ => by
    rw [evalHs] at ev
    cases e1 : evalH fs h with
    | none => rw [e1] at ev; cases ev
    | some z =>
      rw [e1] at ev
      have ev' : (evalHs fs hs).map (z :: ·) = some zs := ev
      cases e2 : evalHs fs hs with
      | none => rw [e2] at ev'; cases ev'
      | some zs' =>
        rw [e2] at ev'
        cases ev'
        refine ⟨c, fs, O, z, hL, hsl, mu, ex, e1, fun v H1 k1 r1 => ⟨c, fs, O, zs', hL, hsl, mu_keep k1 mu, ex.ext k1 mu, e2, fun vs H2 k2 r2 => q (v :: vs) H2 (fun b o e => k2 b o (k1 b o e)) ?_⟩⟩
        rw [RepDs]
        exact ⟨v, vs, rfl, RepD.ext (Ext.new k2 (mu_keep k1 mu)) _ _ r1, r2⟩
theorem th_tup {es : List Expr} {hs : List HE} {k : Nat} {pos : Pos} (h : PA X es (THs X.K a cls d L i hs)) (hl : hs.length ≤ sizeLine) : PE X (.Tuple es k pos) (TH X.K a cls d L i (.tup hs)) := PE.weak (pe_tup h) fun s H Q ⟨c, fs, O, z, hL, hsl, mu, ex, ev, q⟩ => by
  rw [evalH] at ev
  cases e1 : evalHs fs hs with
  | none => rw [e1] at ev; cases ev
  | some zs =>
    rw [e1] at ev
    cases ev
    have hlen : ∀ {hs : List HE} {zs : List Dat}, evalHs fs hs = some zs → zs.length = hs.length := by
      intro hs
      induction hs with
      | nil => intro zs h; rw [evalHs] at h; cases h; rfl
      | cons h hs ih =>
        intro zs hh
        rw [evalHs] at hh
        cases e2 : evalH fs h with
        | none => rw [e2] at hh; cases hh
        | some z =>
          rw [e2] at hh
          have hh' : (evalHs fs hs).map (z :: ·) = some zs := hh
          cases e3 : evalHs fs hs with
          | none => rw [e3] at hh'; cases hh'
          | some zs' =>
            rw [e3] at hh'
            cases hh'
            rw [List.length_cons, List.length_cons, ih e3]
    refine ⟨c, fs, O, zs, hL, hsl, mu, ex, e1, fun vs H1 k1 r1 => ?_⟩
    refine ⟨by rw [r1.length, hlen e1]; exact hl, fun p hp => ?_⟩
    have k2 := upd_keep (o := .tup vs) hp
    refine q _ _ (fun b o e => k2 b o (k1 b o e)) ?_
    rw [RepD]
    exact ⟨p, vs, rfl, .inl (.inl upd_same), RepDs.ext (Ext.new k2 (mu_keep k1 mu)) _ _ r1⟩
theorem th_fld {oe : Obj} {pn : List (Addr × Obj)} {n f : Str} {px pos : Pos} (xf : ∀ c ∈ L, XfC X.K (He.ga X.K c) ∧ PySem.W.findIn X.K (.ref (He.ga X.K c)) f = some none) (hz : Zc cls d oe) (hf : ∃ vs, oe.data = .fields vs) (hN : X.N[i]? = some n) (hv : Vis X.env.scope n)
    (hd : (n == ("__debug__" : Str)) = false) (hcd : (n == ("__classdict__" : Str)) = false) : PE (X.suite a ((a, oe) :: pn)) (.Attribute (.Name n px) f pos) (TH X.K a cls d L i (.fld f)) :=
  ⟨fun pins s0 s H Q I ⟨c, fs, O, z, hL, hsl, mu, ex, ev, q⟩ => (pe_xf (xf c hL).1 (xf c hL).2 hz hf (pe_var (X := X.suite a ((a, oe) :: pn)) (i := i) hN hv hd hcd) rfl).run pins s0 s H Q I (by
    rw [evalH] at ev
    obtain ⟨e, dd, fv, e1, e2, r⟩ := ex
    obtain ⟨v, h1, h2⟩ := r f z ev
    exact ⟨.ref a, hsl, rfl, e, dd, fv, v, e1, e2, h1, q v H (fun _ _ e => e) h2⟩)⟩
/-! ### guards -/
theorem tg_not {e : Expr} {g : HG} {pos : Pos} (h : PT X e (TG X.K a cls d L i g)) : PT X (.UnaryOp .Not e pos) (TG X.K a cls d L i (.not g)) := PT.weak (pt_not h) fun s H Q ⟨c, fs, O, b, hL, hs, mu, ex, ev, q⟩ => by
  rw [evalG] at ev
  cases e1 : evalG c g with
  | none => rw [e1] at ev; cases ev
  | some k =>
    rw [e1] at ev
    cases ev
    exact ⟨c, fs, O, k, hL, hs, mu, ex, e1, q⟩
theorem tg_and {x y : Expr} {rest : List Expr} {g g' : HG} {pos : Pos} (ha : PT X x (TG X.K a cls d L i g)) (hb : PW X (.BoolOp .And (y :: rest) pos) (TG X.K a cls d L i g')) : PW X (.BoolOp .And (x :: y :: rest) pos) (TG X.K a cls d L i (.and g g')) := PW.weak (pw_and ha hb) fun s H Q ⟨c, fs, O, b, hL, hs, mu, ex, ev, q⟩ => by
  rw [evalG] at ev
  cases e1 : evalG c g with
  | none => rw [e1] at ev; cases ev
  | some k =>
    rw [e1] at ev
    refine ⟨c, fs, O, k, hL, hs, mu, ex, e1, ?_⟩
    cases k with
    | true => exact ⟨c, fs, O, b, hL, hs, mu, ex, ev, q⟩
    | false =>
      cases ev
      exact q
theorem tg_or {x y : Expr} {rest : List Expr} {g g' : HG} {pos : Pos} (ha : PT X x (TG X.K a cls d L i g)) (hb : PW X (.BoolOp .Or (y :: rest) pos) (TG X.K a cls d L i g')) : PW X (.BoolOp .Or (x :: y :: rest) pos) (TG X.K a cls d L i (.or g g')) := PW.weak (pw_or ha hb) fun s H Q ⟨c, fs, O, b, hL, hs, mu, ex, ev, q⟩ => by
  rw [evalG] at ev
  cases e1 : evalG c g with
  | none => rw [e1] at ev; cases ev
  | some k =>
    rw [e1] at ev
    refine ⟨c, fs, O, k, hL, hs, mu, ex, e1, ?_⟩
    cases k with
    | true =>
      cases ev
      exact q
    | false => exact ⟨c, fs, O, b, hL, hs, mu, ex, ev, q⟩
end
/-- what a class must say, so that isinstance asks its instances rightly -/
def isxB (K : PySem.W.Frag) (C : Addr) : Bool := (PySem.W.clsIn K C).isSome && decide (PySem.W.findIn K (.ref C) "__getattribute__" = some (some (.builtin "BaseException.__getattribute__"))) && decide (PySem.W.findIn K (.ref C) "__getattr__" = some none) &&
  decide (PySem.W.subIn K (.ref C) (.type "BaseException") = some true) && decide (PySem.W.findIn K (.ref C) "__class__" = some (some (.builtin "object.__class__"))) && decide (PySem.W.specialIn K (.builtin "object.__class__") "__get__" = some (some (.builtin "getset_descriptor.__get__"))) &&
  decide (PySem.W.takesIn K (.builtin "object.__class__") = some true) && decide (PySem.W.mroIn K C (.type "object") = some true)
theorem isxB_ok {K : PySem.W.Frag} {C x : Addr} {ox : Obj} {od : Option Obj} (h : isxB K C = true) : PySem.W.KitX K (.ref x) (.ref C) (fun h => PySem.W.InstAt h x ox C od) := by
  unfold isxB at h
  simp only [Bool.and_eq_true, decide_eq_true_eq] at h
  obtain ⟨⟨⟨⟨⟨⟨⟨h0, h1⟩, h2⟩, h3⟩, h4⟩, h5⟩, h6⟩, h7⟩ := h
  exact PySem.W.kitx_exc h0 h1 h2 h3 h4 h5 h6 h7
section
variable {a : Addr} {cls : Value} {d : Option Addr} {L : List Str} {i : Nat} {oe : Obj} {pn : List (Addr × Obj)}
theorem tg_isx {n x : Str} {tb : List (Str × Bool)} {pf px pc pos : Pos} (hB : Gl X "isinstance" ∧ X.mg "isinstance" = none) (hg : Gl X x) (hm : X.mg x = some (.ref (He.ga X.K x))) (hxd : (x == ("__debug__" : Str)) = false)
    (hT : ∀ c b, tb.lookup c = some b → isxB X.K (He.ga X.K c) = true ∧ PySem.W.kitOne X.K (.ref (He.ga X.K c)) (.ref (He.ga X.K x)) = some b) (hz : Zc cls d oe) (hf : ∃ vs, oe.data = .fields vs) (hN : X.N[i]? = some n) (hv : Vis X.env.scope n)
    (hd : (n == ("__debug__" : Str)) = false) (hcd : (n == ("__classdict__" : Str)) = false) : PT (X.suite a ((a, oe) :: pn)) (.Call (.Name "isinstance" pf) [.Name n px, .Name x pc] [] pos) (TG X.K a cls d L i (.isx tb)) := by
  have call : CallR (X.suite a ((a, oe) :: pn)) (.builtin "isinstance") (fun xs H Q => ∃ c fs O b, xs = [.ref a, .ref (He.ga X.K x)] ∧ ExcAt X.K H O c fs cls d ∧ tb.lookup c = some b ∧ Q (.bl b) H) := by
    intro pins s σ H xs us Q I r ⟨c, fs, O, b, exs, ex, eb, q⟩
    subst exs
    cases r with
    | cons rx rr =>
      cases rr with
      | cons rt rr =>
        cases rr
        cases rx
        cases rt
        obtain ⟨hget, _⟩ := I.pin (a, oe) (List.mem_append.mpr (.inl List.mem_cons_self))
        obtain ⟨vs, hvs⟩ := hf
        obtain ⟨e, dd, fv, e1, e2, _⟩ := ex
        have hx : ObjOk X.prog X.w H s.heap dd (.xd fv) := I.hok dd _ e2
        obtain ⟨mA, ⟨od, es, ep, he, hc⟩, _⟩ := hx
        have J : PySem.W.InstAt s.heap a oe (He.ga X.K c) (some od) := by
          obtain ⟨oc, odd, oda, osl⟩ := oe
          obtain ⟨h1, h2⟩ := hz
          dsimp only at h1 h2 hvs
          subst h1 h2 hvs e e1
          exact ⟨hget, rfl, rfl, he⟩
        obtain ⟨t1, t2⟩ := hT c b eb
        exact PySem.W.kia_one (isxB_ok t1) I.kIn J t2 (fun z => nomatch z) fun tk => ⟨.bl b, H, I.kept (t' := tk) fun _ _ z => z, rfl, q⟩
  have v1 : PE (X.suite a ((a, oe) :: pn)) (.Name n px) (tVar i) := pe_var (X := X.suite a ((a, oe) :: pn)) (i := i) hN hv hd hcd
  have v2 : PE (X.suite a ((a, oe) :: pn)) (.Name x pc) (tC (.ref (He.ga X.K x))) := pe_glob (X := X.suite a ((a, oe) :: pn)) hg hm rfl hxd
  have hcall := pe_callB (X := X.suite a ((a, oe) :: pn)) (p := pf) (pos := pos) call hB.1 hB.2 rfl (pa_cons v1 (pa_cons v2 pa_nil rfl) rfl)
  refine PT.weak (pt_truth hcall (plain_true rfl _)) fun s H Q ⟨c, fs, O, b, hL, hs, mu, ex, ev, q⟩ => ?_
  rw [evalG] at ev
  exact ⟨.ref a, hs, c, fs, O, b, rfl, ex, ev, b, rfl, q⟩
/-! ### suites -/
theorem su_nil : PSs X [] (TSu X.K a cls d L i []) := PSs.weak pss_nil fun D s H ⟨c, fs, O, z, hL, hs, mu, ex, ev, q⟩ => by
  rw [evalHG] at ev
  cases ev
  exact q
theorem su_ret {e : Expr} {h : HE} {r : List (Option HG × HE)} {pos : Pos} (he : PE X e (TH X.K a cls d L i h)) : PSs X [.Return (some e) pos] (TSu X.K a cls d L i ((none, h) :: r)) := PSs.weak (pss_one (ps_ret he)) fun D s H ⟨c, fs, O, z, hL, hs, mu, ex, ev, q⟩ => by
  rw [evalHG] at ev
  cases e1 : evalH fs h with
  | none => rw [e1] at ev; cases ev
  | some x =>
    rw [e1] at ev
    cases ev
    exact ⟨c, fs, O, x, hL, hs, mu, ex, e1, fun v H' k r => q v H' k r⟩
theorem su_if {t e : Expr} {g : HG} {h : HE} {r : List (Option HG × HE)} {rest : List Stmt} {pos pos' : Pos} (ht : PT X t (TG X.K a cls d L i g)) (he : PE X e (TH X.K a cls d L i h)) (hr : PSs X rest (TSu X.K a cls d L i r)) : PSs X (.If t [.Return (some e) pos] [] pos' :: rest) (TSu X.K a cls d L i ((some g, h) :: r)) :=
  PSs.weak (pss_cons (ps_if ht (pss_one (ps_ret he)) pss_nil) hr) fun D s H ⟨c, fs, O, z, hL, hs, mu, ex, ev, q⟩ => by
    rw [evalHG] at ev
    cases e1 : evalG c g with
    | none => rw [e1] at ev; cases ev
    | some k =>
      rw [e1] at ev
      refine ⟨c, fs, O, k, hL, hs, mu, ex, e1, ?_⟩
      cases k with
      | true =>
        have ev' : (evalH fs h).map some = some z := ev
        cases e2 : evalH fs h with
        | none => rw [e2] at ev'; cases ev'
        | some x =>
          rw [e2] at ev'
          cases ev'
          exact ⟨c, fs, O, x, hL, hs, mu, ex, e2, fun v H' k r => q v H' k r⟩
      | false => exact ⟨c, fs, O, z, hL, hs, mu, ex, ev, q⟩
end
theorem Good.drop {i : Nat} {o : Option V} (g : Good K H σ s w R) : ∃ w', Good K H (σ.set i none) (s.set i o) w' R ∧ ∀ b ∈ w', b ∈ w := by
  obtain ⟨wd, w', h, pm⟩ := g.rep.drop i o
  have pmO : (w ++ R).Perm (wd ++ (w' ++ R)) := by
    rw [← List.append_assoc]
    exact List.Perm.append_right R pm
  have mem : ∀ b, b ∈ w' ++ R → b ∈ w ++ R := fun b hb => pmO.mem_iff.mpr (List.mem_append_right _ hb)
  exact ⟨w', ⟨h.ext (Ext.less mem) fun _ _ _ q => q, (List.nodup_append.mp (pmO.nodup_iff.mp g.nd)).2.1, fun b hb => g.mu b (mem b hb)⟩, fun b hb => pm.mem_iff.mpr (List.mem_append_right _ hb)⟩
theorem st_try {body : List Stmt} {c n : Str} {i : Nat} {sb : Stmt} {su : List Stmt} {ib : List S} {cs : List (Str × Bool)} {L : List Str} {h : List (Option HG × HE)} {np pos pos' : Pos} (hs : X.stack = X.env :: X.outer) (hf : X.env.frame = some X.env.locals) (hN : X.N.Nodup) (hi : X.N[i]? = some n) (hln : X.env.kindOf n = some .local)
    (hc : Names X c (.ref (He.ga X.K c))) (tk : Takes X W) (hA : i ∈ A)
    (hb : ∀ (W' : WX) (pn : List (Addr × Obj)) (xe : Value → Shared → Prop), Takes (X.tr pn xe) W' → PassesOwn (model X.prog X.w) X.A X.env xe → PSs (X.tr pn xe) body (TSs X.K W' C fu A ib))
    (hsu : ∀ (a : Addr) (oe : Obj) (cls : Value) (d : Option Addr) (pn : List (Addr × Obj)), Zc cls d oe → (∃ vs, oe.data = .fields vs) → PSs (X.suite a ((a, oe) :: pn)) (sb :: su) (TSu X.K a cls d L i h))
    (hex : ∀ p ∈ cs, PySem.W.exmOne X.K (.ref (He.ga X.K p.1)) (.ref (He.ga X.K c)) = some p.2) :
    PS X (.Try body [.ExceptHandler (some (.Name c np)) (some n) (sb :: su) pos'] [] [] pos) (TSt X.K W C fu A (.try_ ib cs i L h)) := by
  refine PS.weak (ps_try_as (tb := fun W' => TSs X.K W' C fu A ib) hs hf hN hi hln hc tk hb fun a oe cls d pn hz hfl => hsu a oe cls d pn hz hfl) fun D s H ⟨σ, w, R, g, hq⟩ => ?_
  rw [execS] at hq
  refine ⟨σ, w, R, g, ?_⟩
  cases eb : execB C fu ib σ with
  | nx σ' => rw [eb] at hq; exact hq
  | brk σ' => rw [eb] at hq; exact hq
  | cont σ' => rw [eb] at hq; exact hq
  | ret p σ' => rw [eb] at hq; exact hq
  | bad => rw [eb] at hq; exact hq
  | exc c' fs σ1 =>
    rw [eb] at hq
    simp only at hq
    intro s' cls d H' fr fx
    have fx0 := fx
    obtain ⟨w', g', t', xe⟩ := fx
    have ec := xe.1
    cases el : cs.lookup c' with
    | none => rw [el] at hq; exact hq.elim
    | some b =>
      rw [el] at hq
      have hm := hex _ (PySem.mem_of_lookup el)
      cases b with
      | false =>
        refine ⟨false, by rw [ec]; exact hm, (fun z => by cases z), fun _ => hq s' cls d H' fr fx0⟩
      | true =>
        refine ⟨true, by rw [ec]; exact hm, fun _ a ha => ?_, (fun z => by cases z)⟩
        simp only at hq
        by_cases hcc : c' ∈ L ∧ i < σ1.length
        · rw [if_pos hcc] at hq
          obtain ⟨hL, hil⟩ := hcc
          have hl := g'.rep.length
          cases ev : evalHG c' fs h with
          | none => rw [ev] at hq; exact hq.elim
          | some z =>
            rw [ev] at hq
            refine ⟨c', fs, w' ++ R, z, hL, List.getElem?_set_self (by omega), g'.mu, xe, ev, ?_⟩
            cases z with
            | some x =>
              intro v H2 k2 r2
              obtain ⟨w2, g2, sub2⟩ := (g'.keep k2).drop (i := i) (o := some (.ref a))
              refine hq (s'.set i (some (.ref a))) v H2 w2 [] (by simpa using g2) ?_ (by simpa using (t'.trans (Step.same k2)).less sub2) fun r hr => ?_
              · rw [RepP]
                refine ⟨rfl, RepD.ext (Ext.less fun b hb => ?_) _ _ r2⟩
                rcases List.mem_append.mp (by simpa using hb) with z | z
                · exact List.mem_append_left _ (sub2 b z)
                · exact List.mem_append_right _ z
              · rw [List.getElem?_set_ne fun z => hr (by rw [← z]; exact hA)]
                exact fr r hr
            | none =>
              obtain ⟨w2, g2, sub2⟩ := g'.drop (i := i) (o := none)
              refine hq ((s'.set i (some (.ref a))).set i none) H' ⟨w2, by rw [List.set_set]; exact g2, t'.less sub2, fun r hr => ?_⟩
              rw [List.getElem?_set_ne fun z => hr (by rw [← z]; exact hA), List.getElem?_set_ne fun z => hr (by rw [← z]; exact hA)]
              exact fr r hr
        · rw [if_neg hcc] at hq
          exact hq.elim
end
end R

/-! E3: chains of three, ranges as values, dicts of the top, places op= value, calls by names. -/
namespace R
open PySem PySem.Spec L2
open PyProof.Rows hiding St
section
variable {K : PySem.W.Frag} {W : WX} {C : CF} {fu : Nat} {A : List Nat} {D : Ends} {H H1 H2 H' : Hp} {s s1 s2 : St} {w w1 w2 R wv wv2 O O' : List Addr} {σ σ1 σ2 : Sto} {Q : VK} {X : Cx}
/-! ### a op b op c op d -/
def tChain3 (r r' r2 : R2) (ta tb tc td : TE) : TE := fun σ H Q => ta σ H fun x H1 => tb σ H1 fun y H2 => r x y H2 fun z H3 => ∃ k, z = .bl k ∧
  (if k = true then tc σ H3 fun x' H4 => r' y x' H4 fun z' H5 => ∃ k', z' = .bl k' ∧ (if k' = true then td σ H5 fun y' H6 => r2 x' y' H6 Q else Q (.bl false) H5) else Q (.bl false) H3)
section
variable {a b c d : Expr} {ta tb tc td : TE} {pos : Pos} {ia ib ic id : E}
theorem pe_chain3 {op op' op2 : CmpOp} {r r' r2 : R2} (ho : OpR X (compareOp op) r) (ho' : OpR X (compareOp op') r') (ho2 : OpR X (compareOp op2) r2) (ha : PE X a ta) (hb : PE X b tb) (hc : PE X c tc) (hd : PE X d td)
    (hm : lastMarks [op, op', op2] [b, c, d] = false) : PE X (.Compare a [op, op', op2] [b, c, d] pos) (tChain3 r r' r2 ta tb tc td) := by
  refine ⟨fun pins s σ H Q I h => ?_⟩
  refine Compare_chain (thn (ha.run pins s σ H _ I h) fun v s1 ⟨x, H1, I1, r1, q1⟩ => chain_link (thn (hb.run pins s1 σ H1 _ I1 q1) fun u s2 ⟨y, H2, I2, r2, q2⟩ =>
    thn (ho pins s2 σ H2 x y v u _ I2 r1 r2 q2) fun d s3 ⟨z, H3, I3, r3, k, e, q3⟩ => ?_)) hm
  subst e
  cases r3
  refine wpAny_truthy_bool ?_
  cases k with
  | false => exact ite_ff ⟨.bl false, H3, I3, rfl, q3⟩
  | true =>
    refine ite_tt (chain_link (thn (hc.run pins s3 σ H3 _ I3 q3) fun w' s4 ⟨z', H4, I4, r4, q4⟩ => thn (ho' pins s4 σ H4 y z' u w' _ I4 r2 r4 q4) fun d' s5 ⟨z2, H5, I5, r5, k2, e2, q5⟩ => ?_))
    subst e2
    cases r5
    refine wpAny_truthy_bool ?_
    cases k2 with
    | false => exact ite_ff ⟨.bl false, H5, I5, rfl, q5⟩
    | true => exact ite_tt (chain_last (thn (hd.run pins s5 σ H5 _ I5 q5) fun w6 s6 ⟨z6, H6, I6, r6, q6⟩ => ho2 pins s6 σ H6 z' z6 w' w6 Q I6 r4 r6 q6))
theorem pt_chain3 {op op' op2 : CmpOp} {r r' r2 : R2} (ho : OpR X (compareOp op) r) (ho' : OpR X (compareOp op') r') (ho2 : OpR X (compareOp op2) r2) (ha : PE X a ta) (hb : PE X b tb) (hc : PE X c tc) (hd : PE X d td)
    (hm : lastMarks [op, op', op2] [b, c, d] = false) : PT X (.Compare a [op, op', op2] [b, c, d] pos) (tTest (tChain3 r r' r2 ta tb tc td)) := by
  refine ⟨fun pins s σ H Q I h => ?_⟩
  refine isTrue_chain (thn (ha.run pins s σ H _ I h) fun v s1 ⟨x, H1, I1, r1, q1⟩ => test_link (thn (hb.run pins s1 σ H1 _ I1 q1) fun u s2 ⟨y, H2, I2, r2, q2⟩ =>
    thn (ho pins s2 σ H2 x y v u _ I2 r1 r2 q2) fun d s3 ⟨z, H3, I3, r3, k, e, q3⟩ => ?_)) hm
  subst e
  cases r3
  refine wpAny_truthy_bool ?_
  cases k with
  | false =>
    obtain ⟨k', e', q'⟩ := q3
    cases e'
    exact ite_ff ⟨H3, I3, q'⟩
  | true =>
    refine ite_tt (test_link (thn (hc.run pins s3 σ H3 _ I3 q3) fun w' s4 ⟨z', H4, I4, r4, q4⟩ => thn (ho' pins s4 σ H4 y z' u w' _ I4 r2 r4 q4) fun d' s5 ⟨z2, H5, I5, r5, k2, e2, q5⟩ => ?_))
    subst e2
    cases r5
    refine wpAny_truthy_bool ?_
    cases k2 with
    | false =>
      obtain ⟨k', e', q'⟩ := q5
      cases e'
      exact ite_ff ⟨H5, I5, q'⟩
    | true =>
      refine ite_tt (test_last (thn (hd.run pins s5 σ H5 _ I5 q5) fun w6 s6 ⟨z6, H6, I6, r6, q6⟩ => thn (ho2 pins s6 σ H6 z' z6 w' w6 _ I6 r4 r6 q6) fun d7 s7 ⟨z7, H7, I7, r7, k7, e7, q7⟩ => ?_))
      subst e7
      cases r7
      exact wpAny_truthy_bool ⟨H7, I7, q7⟩
theorem marks3 {o1 o2 o3 : Cop} {b c d : Expr} (h : ∀ es k p, d ≠ .Set es k p) : lastMarks [copA o1, copA o2, copA o3] [b, c, d] = false := by
  show lastMarks [copA o3] [d] = false
  have := nobeh (co := o3) h
  simpa [lastMarks] using this
theorem t_chain3 {n : Nat} (hr : Room n X.A) {co co' co2 : Cop} (ha : PE X a (T X.K W C ia)) (hb : PE X b (T X.K W C ib)) (hc : PE X c (T X.K W C ic)) (hd : PE X d (TV X.K W C id)) (hs' : ∀ es k p, d ≠ .Set es k p) :
    PE X (.Compare a [copA co, copA co', copA co2] [b, c, d] pos) (T X.K W C (.chain3 co co' co2 ia ib ic id)) := by
  refine PE.weak (pe_chain3 (op_cmp hr co) (op_cmp hr co') (op_cmp hr co2) ha hb hc hd (marks3 hs')) fun s H Q ⟨σ, w, R, g, h⟩ => ?_
  rw [evalE] at h
  refine T.ofD g h fun p σ1 v H1 w1 g1 r1 t1 h1 => ?_
  refine T.ofD g1 (OutV.step h1 t1) fun q σ2 u H2 w2 g2 r2 t2 h2 => ?_
  have r1' := RepD.ext (g1.ext t2) _ _ r1
  cases e2 : cmpD co p.frz q.frz with
  | none => rw [e2] at h2; exact h2.elim
  | some k =>
    rw [e2] at h2
    refine cmp_end e2 r1'.nil r2.nil ⟨k, rfl, ?_⟩
    cases k with
    | false => exact OkV.data h2 g2 t2 (by rw [RepD])
    | true =>
      rw [if_pos rfl]
      refine T.ofD g2 (OutV.step h2 t2) fun z σ3 x H3 w3 g3 r3 t3 h3 => ?_
      have r2' := RepD.ext (g2.ext t3) _ _ r2
      cases e3 : cmpD co' q.frz z.frz with
      | none => rw [e3] at h3; exact h3.elim
      | some k =>
        rw [e3] at h3
        refine cmp_end e3 r2'.nil r3.nil ⟨k, rfl, ?_⟩
        cases k with
        | false => exact OkV.data h3 g3 t3 (by rw [RepD])
        | true =>
          rw [if_pos rfl]
          refine TV.ofW g3 (OutV.step h3 t3) fun z4 σ4 x4 H4 f h4 => ?_
          obtain ⟨w4, g4, r4, t4, _⟩ := f
          obtain ⟨y, e, ok⟩ := Out.ofOpt h4
          cases e5 : cmpD co2 z.frz z4.frz with
          | none => rw [e5] at e; cases e
          | some k =>
            rw [e5] at e
            cases e
            exact cmp_end e5 (RepD.nil (RepD.ext (g3.ext t4) _ _ r3)) r4 (OkV.data ok g4 t4 (by rw [RepD]))
theorem tt_chain3 {n : Nat} (hr : Room n X.A) {co co' co2 : Cop} (ha : PE X a (T X.K W C ia)) (hb : PE X b (T X.K W C ib)) (hc : PE X c (T X.K W C ic)) (hd : PE X d (TV X.K W C id)) (hs' : ∀ es k p, d ≠ .Set es k p) :
    PT X (.Compare a [copA co, copA co', copA co2] [b, c, d] pos) (TT' X.K W C (.chain3 co co' co2 ia ib ic id)) := by
  refine PT.weak (pt_chain3 (op_cmp hr co) (op_cmp hr co') (op_cmp hr co2) ha hb hc hd (marks3 hs')) fun s H Qb ⟨σ, w, R, g, h⟩ => ?_
  rw [evalE, bind_assoc] at h
  refine T.ofD g h fun p σ1 v H1 w1 g1 r1 t1 h1 => ?_
  rw [bind_assoc] at h1
  have h1' := h1.map (ok' := OkT X.K H1 s w1 R Qb) t1 fun b σ' q H' w' g' t' => q H' w' g' (t1.trans t')
  refine T.ofD g1 h1' fun q σ2 u H2 w2 g2 r2 t2 h2 => ?_
  have r1' := RepD.ext (g1.ext t2) _ _ r1
  cases e2 : cmpD co p.frz q.frz with
  | none => rw [e2] at h2; exact h2.elim
  | some k =>
    rw [e2] at h2
    refine cmp_end e2 r1'.nil r2.nil ⟨k, rfl, ?_⟩
    cases k with
    | false => exact ⟨false, rfl, h2 H2 w2 g2 t2⟩
    | true =>
      rw [if_pos rfl]
      simp only [bind_assoc] at h2
      have h2' := h2.map (ok' := OkT X.K H2 s w2 R Qb) t2 fun b σ' q H' w' g' t' => q H' w' g' (t2.trans t')
      refine T.ofD g2 h2' fun z σ3 x H3 w3 g3 r3 t3 h3 => ?_
      have r2' := RepD.ext (g2.ext t3) _ _ r2
      cases e3 : cmpD co' q.frz z.frz with
      | none => rw [e3] at h3; exact h3.elim
      | some k =>
        rw [e3] at h3
        refine cmp_end e3 r2'.nil r3.nil ⟨k, rfl, ?_⟩
        cases k with
        | false => exact ⟨false, rfl, h3 H3 w3 g3 t3⟩
        | true =>
          rw [if_pos rfl]
          simp only [bind_assoc] at h3
          have h3' := h3.map (ok' := OkT X.K H3 s w3 R Qb) t3 fun b σ' q H' w' g' t' => q H' w' g' (t3.trans t')
          refine TV.ofW g3 h3' fun z4 σ4 x4 H4 f h4 => ?_
          obtain ⟨w4, g4, r4, t4, _⟩ := f
          cases e5 : cmpD co2 z.frz z4.frz with
          | none => rw [e5] at h4; exact h4.elim
          | some k =>
            rw [e5] at h4
            exact cmp_end e5 (RepD.nil (RepD.ext (g3.ext t4) _ _ r3)) r4 ⟨k, rfl, h4 H4 w4 g4 t4⟩
end

/-! ### list(range(..)), tuple(range(..)) -/
theorem rg_rep {a b : Int} {O : List Addr} : RepDs K H O ((List.range (b - a).toNat).map fun i => Dat.int (a + ((i : Nat) : Int))) (rgV a b) := by
  unfold rgV
  generalize List.range (b - a).toNat = l
  induction l with
  | nil => rw [List.map_nil, List.map_nil, RepDs]
  | cons x l ih =>
    rw [List.map_cons, List.map_cons, RepDs]
    exact ⟨_, _, rfl, by rw [RepD], ih⟩
theorem rngD_some {t : Bool} {a b : Int} {z : PV} (h : rngD t a b = some z) : RgOk a b ∧ z = (if t then .d (.tup ((List.range (b - a).toNat).map fun i => Dat.int (a + ((i : Nat) : Int)))) else dl ((List.range (b - a).toNat).map fun i => Dat.int (a + ((i : Nat) : Int)))) := by
  unfold rngD at h
  split at h
  · rename_i q
    simp only [Bool.and_eq_true, decide_eq_true_eq] at q
    obtain ⟨⟨q1, q2⟩, q3⟩ := q
    obtain ⟨h1, h2⟩ := inR_ok q1
    obtain ⟨h3, h4⟩ := inR_ok q2
    cases h
    exact ⟨⟨h1, h2, h3, h4, q3⟩, rfl⟩
  · cases h
theorem rng_len {a b : Int} : ((List.range (b - a).toNat).map fun i => Dat.int (a + ((i : Nat) : Int))).length = (b - a).toNat := by simp
theorem rng_endL {a b : Int} {z : PV} {σ' : Sto} (h : rngD false a b = some z) (ok : OkV K H s w R Q z σ') (g : Good K H1 σ' s w1 R) (t : Step w H w1 H1) : RgOk a b ∧ ∀ q, H1 q = none → Q (.ref q) (upd H1 q (.lst (rgV a b))) := by
  obtain ⟨h1, rfl⟩ := rngD_some h
  refine ⟨h1, fun q hq => ?_⟩
  exact OkV.lstP (wv := []) (xs := ((List.range (b - a).toNat).map fun i => Dat.int (a + ((i : Nat) : Int))).map .d) ok (by simpa using g) (by simpa using t) (RepDs.toP _ _ rg_rep) hq
theorem rng_endT {a b : Int} {z : PV} {σ' : Sto} (h : rngD true a b = some z) (ok : OkV K H s w R Q z σ') (g : Good K H1 σ' s w1 R) (t : Step w H w1 H1) : RgOk a b ∧ ∀ q, H1 q = none → Q (.ref q) (upd H1 q (.tup (rgV a b))) := by
  obtain ⟨h1, rfl⟩ := rngD_some h
  refine ⟨h1, fun q hq => ?_⟩
  exact OkV.tupP (wv := []) (xs := ((List.range (b - a).toNat).map fun i => Dat.int (a + ((i : Nat) : Int))).map .d) (by rw [mkTup_map]; exact ok) (by simpa using g) (by simpa using t) (RepDs.toP _ _ rg_rep) hq
theorem rngP_one {t : Bool} {x : Dat} {z : PV} (h : rngP t [x] = some z) : ∃ n, x = .int n ∧ rngD t 0 n = some z := by
  cases x <;> simp [rngP] at h
  exact ⟨_, rfl, h⟩
theorem rngP_two {t : Bool} {x y : Dat} {z : PV} (h : rngP t [x, y] = some z) : ∃ n m, x = .int n ∧ y = .int m ∧ rngD t n m = some z := by
  cases x <;> cases y <;> simp [rngP] at h
  exact ⟨_, _, rfl, rfl, h⟩
/-- the name of it -/
def rngNm (t : Bool) : Str := if t then "tuple" else "list"
theorem t_rng1 {t : Bool} {a : Expr} {ia : E} {p p2 pos pos2 : Pos} (hc : X.calm = true) (hg : Gl X (rngNm t)) (hm : X.mg (rngNm t) = none) (hg2 : Gl X "range") (hm2 : X.mg "range" = none) (ha : PE X a (T X.K W C ia)) (hs : notStar a = true) :
    PE X (.Call (.Name (rngNm t) p) [.Call (.Name "range" p2) [a] [] pos2] [] pos) (T X.K W C (.rng t [ia])) := by
  have rd : ∀ s H (k : Int → Int → Hp → Prop) Q, T X.K W C (.rng t [ia]) s H Q → (∀ a b z σ' w w1 R H0 H1, rngD t a b = some z → OkV X.K H0 s w R Q z σ' → Good X.K H1 σ' s w1 R → Step w H0 w1 H1 → k a b H1) → tRg1 (T X.K W C ia) s H k := by
    rintro s H k Q ⟨σ, w, R, g, h⟩ hk
    rw [evalE] at h
    simp only [evalEs, bind_assoc] at h
    refine T.ofD g h fun p σ1 v H1 w1 g1 r1 t1 h1 => ?_
    simp only [Res.bind_ok, frzs_cons, frzs_nil] at h1
    obtain ⟨z, e, ok⟩ := Out.ofOpt h1
    obtain ⟨n, en, er⟩ := rngP_one e
    rw [en] at r1
    cases r1.intV
    exact ⟨n, rfl, hk 0 n z σ1 w w1 R H H1 er ok g1 t1⟩
  cases t with
  | false => exact PE.weak (pe_listRg hc hg hm (prg_1 hg2 hm2 ha (star_eq hs _ _))) fun s H Q h => rd s H _ Q h fun a b z σ' w w1 R H0 H1 e ok g t => rng_endL e ok g t
  | true => exact PE.weak (pe_tupRg hc hg hm (prg_1 hg2 hm2 ha (star_eq hs _ _))) fun s H Q h => rd s H _ Q h fun a b z σ' w w1 R H0 H1 e ok g t => rng_endT e ok g t
theorem t_rng2 {t : Bool} {a b : Expr} {ia ib : E} {p p2 pos pos2 : Pos} (hc : X.calm = true) (hg : Gl X (rngNm t)) (hm : X.mg (rngNm t) = none) (hg2 : Gl X "range") (hm2 : X.mg "range" = none) (ha : PE X a (T X.K W C ia)) (hb : PE X b (T X.K W C ib)) (hs : notStar a = true) (hs2 : notStar b = true) :
    PE X (.Call (.Name (rngNm t) p) [.Call (.Name "range" p2) [a, b] [] pos2] [] pos) (T X.K W C (.rng t [ia, ib])) := by
  have rd : ∀ s H (k : Int → Int → Hp → Prop) Q, T X.K W C (.rng t [ia, ib]) s H Q → (∀ a b z σ' w w1 R H0 H1, rngD t a b = some z → OkV X.K H0 s w R Q z σ' → Good X.K H1 σ' s w1 R → Step w H0 w1 H1 → k a b H1) → tRg2 (T X.K W C ia) (T X.K W C ib) s H k := by
    rintro s H k Q ⟨σ, w, R, g, h⟩ hk
    rw [evalE] at h
    simp only [evalEs, bind_assoc] at h
    refine T.ofD g h fun p σ1 v H1 w1 g1 r1 t1 h1 => ?_
    refine T.ofD g1 (OutV.step h1 t1) fun q σ2 u H2 w2 g2 r2 t2 h2 => ?_
    simp only [Res.bind_ok, frzs_cons, frzs_nil] at h2
    obtain ⟨z, e, ok⟩ := Out.ofOpt h2
    obtain ⟨n, m, en, em, er⟩ := rngP_two e
    have r1' := RepD.ext (g1.ext t2) _ _ r1
    rw [en] at r1'
    rw [em] at r2
    cases r1'.intV
    cases r2.intV
    exact ⟨n, m, rfl, rfl, hk n m z σ2 w1 w2 R H1 H2 er ok g2 t2⟩
  have nostar : (backTo pos2 (starEach [b] X.env)).any (·.1) = false := noStars (by simp [hs2])
  cases t with
  | false => exact PE.weak (pe_listRg hc hg hm (prg_2 hg2 hm2 ha hb (star_eq hs _ _) (star_eq hs2 _ _) nostar)) fun s H Q h => rd s H _ Q h fun a b z σ' w w1 R H0 H1 e ok g t => rng_endL e ok g t
  | true => exact PE.weak (pe_tupRg hc hg hm (prg_2 hg2 hm2 ha hb (star_eq hs _ _) (star_eq hs2 _ _) nostar)) fun s H Q h => rd s H _ Q h fun a b z σ' w w1 R H0 H1 e ok g t => rng_endT e ok g t

/-! ### dicts of the top: strings to numbers -/
def entB : List DictEntry → List (Str × Int) → Bool
  | [], [] => true
  | e :: r, q :: l => (match e.key, e.val with
    | .str x _, .int j _ => decide (x = q.1) && decide (j = q.2)
    | _, _ => false) && entB r l
  | _, _ => false
theorem entB_find {z : Str} : ∀ {es : List DictEntry} {kvs : List (Str × Int)}, entB es kvs = true → (es.any (·.refKey)) = false ∧
    match (kvs.find? fun kv => decide (kv.1 = z)) with
    | some q => ∃ e t, es.find? (·.key.isStr z) = some e ∧ e.val = .int q.2 t
    | none => es.find? (·.key.isStr z) = none
  | [], [], _ => ⟨rfl, rfl⟩
  | [], _ :: _, h => by simp [entB] at h
  | _ :: _, [], h => by simp [entB] at h
  | e :: r, q :: l, h => by
    rw [entB, Bool.and_eq_true] at h
    obtain ⟨h1, h2⟩ := h
    obtain ⟨i1, i2⟩ := entB_find (z := z) h2
    obtain ⟨eh, ek, ev⟩ := e
    dsimp only at h1
    split at h1
    · rename_i x t j t'
      rw [Bool.and_eq_true, decide_eq_true_eq, decide_eq_true_eq] at h1
      obtain ⟨rfl, rfl⟩ := h1
      refine ⟨by rw [List.any_cons, i1]; rfl, ?_⟩
      rw [List.find?_cons, List.find?_cons]
      by_cases hz : q.1 = z
      · have : (Value.isStr (.str q.1 t) z) = true := by simp [Value.isStr, hz]
        simp only [hz, decide_true]
        rw [← hz] at this ⊢
        simp only [this]
        exact ⟨_, _, rfl, rfl⟩
      · have : (Value.isStr (.str q.1 t) z) = false := by simp [Value.isStr, hz]
        simp only [hz, decide_false, this]
        exact i2
    · cases h1
/-- the dict that the name x stands for -/
structure TabOk (X : Cx) (x : Str) (kvs : List (Str × Int)) : Prop where
  mg : X.mg x = some (.ref (He.ga X.K x))
  kd : ∃ es n, KDict X.K X.w (He.ga X.K x) es n ∧ entB es.toList kvs = true
theorem TabOk.ns {x : Str} {kvs : List (Str × Int)} (o : TabOk X x kvs) (z : Str) : match (kvs.find? fun kv => decide (kv.1 = z)) with
    | some q => ∃ t, PySem.W.nsIn X.K (He.ga X.K x) z = some (some (.int q.2 t))
    | none => PySem.W.nsIn X.K (He.ga X.K x) z = some none := by
  obtain ⟨es, n, kd, he⟩ := o.kd
  obtain ⟨h1, h2⟩ := entB_find (z := z) he
  unfold PySem.W.nsIn
  rw [kd.at_]
  dsimp only
  cases e : (kvs.find? fun kv => decide (kv.1 = z)) with
  | some q =>
    rw [e] at h2
    obtain ⟨en, t, e1, e2⟩ := h2
    exact ⟨t, by rw [e1]; show some (some en.val) = _; rw [e2]⟩
  | none =>
    rw [e] at h2
    rw [h2, h1]
    rfl
theorem kinD_some {no : Bool} {kvs : List (Str × Int)} {x : Dat} {z : PV} (h : kinD no kvs x = some z) : ∃ k, x = .str k ∧ z = .d (.bl ((kvs.any fun kv => decide (kv.1 = k)) != no)) := by
  cases x <;> simp [kinD] at h
  exact ⟨_, rfl, h.symm⟩
theorem katD_some {kvs : List (Str × Int)} {x : Dat} {z : PV} (h : katD kvs x = some z) : ∃ k q, x = .str k ∧ (kvs.find? fun kv => decide (kv.1 = k)) = some q ∧ z = .d (.int q.2) := by
  cases x with
  | str k =>
    have h' : ((kvs.find? fun kv => decide (kv.1 = k)).map (·.2)).map (fun i => PV.d (.int i)) = some z := h
    cases e : (kvs.find? fun kv => decide (kv.1 = k)) with
    | none => rw [e] at h'; cases h'
    | some q =>
      rw [e] at h'
      cases h'
      exact ⟨k, q, rfl, e, rfl⟩
  | _ => simp [katD] at h
theorem find_any {α : Type} {f : α → Bool} : ∀ {l : List α}, l.any f = (l.find? f).isSome
  | [] => rfl
  | a :: l => by
    rw [List.any_cons, List.find?_cons, find_any (l := l)]
    cases f a <;> rfl
theorem kin_op {no : Bool} {x : Str} {kvs : List (Str × Int)} (o : TabOk X x kvs) : OpR X (compareOp (if no then .NotIn else .In)) (fun u y H Q => ∃ k, u = .str k ∧ y = .ref (He.ga X.K x) ∧ Q (.bl ((kvs.any fun kv => decide (kv.1 = k)) != no)) H) := by
  obtain ⟨es, n, kd, he⟩ := o.kd
  intro pins s σ H u y v v2 Q I ru ry ⟨k, eu, ey, q⟩
  have hn := o.ns k
  rw [find_any] at q
  cases e : (kvs.find? fun kv => decide (kv.1 = k)) with
  | some z =>
    rw [e] at hn q
    obtain ⟨t, hn⟩ := hn
    cases no with
    | false => exact op_in_kd kd pins s σ H u y v v2 Q I ru ry ⟨k, _, eu, ey, hn, q⟩
    | true => exact op_notIn_kd kd pins s σ H u y v v2 Q I ru ry ⟨k, _, eu, ey, hn, q⟩
  | none =>
    rw [e] at hn q
    cases no with
    | false => exact op_in_kd kd pins s σ H u y v v2 Q I ru ry ⟨k, _, eu, ey, hn, q⟩
    | true => exact op_notIn_kd kd pins s σ H u y v v2 Q I ru ry ⟨k, _, eu, ey, hn, q⟩
theorem nobehN {op : CmpOp} {x : Str} {p : Pos} : behindInMarks op (.Name x p) = false := by
  unfold behindInMarks
  split
  · rename_i h; cases h
  · rfl
theorem t_kin {no : Bool} {x : Str} {kvs : List (Str × Int)} {a : Expr} {ia : E} {p pos : Pos} (o : TabOk X x kvs) (hg : Gl X x) (hd : (x == ("__debug__" : Str)) = false) (ha : PE X a (T X.K W C ia)) :
    PE X (.Compare a [if no then .NotIn else .In] [.Name x p] pos) (T X.K W C (.kin no ia kvs)) :=
  PE.weak (pe_cmpR (kin_op o) ha (pe_glob (v := .ref (He.ga X.K x)) hg o.mg rfl hd) nobehN) fun s H Q ⟨σ, w, R, g, h⟩ => by
    rw [evalE] at h
    refine T.ofD g h fun p σ1 v H1 w1 g1 r1 t1 h1 => ?_
    obtain ⟨z, e, ok⟩ := Out.ofOpt h1
    obtain ⟨k, ek, rfl⟩ := kinD_some e
    rw [ek, RepD] at r1
    exact ⟨k, r1, rfl, OkV.data ok g1 t1 (by rw [RepD])⟩
theorem tt_kin {no : Bool} {x : Str} {kvs : List (Str × Int)} {a : Expr} {ia : E} {p pos : Pos} (o : TabOk X x kvs) (hg : Gl X x) (hd : (x == ("__debug__" : Str)) = false) (ha : PE X a (T X.K W C ia)) :
    PT X (.Compare a [if no then .NotIn else .In] [.Name x p] pos) (TT' X.K W C (.kin no ia kvs)) :=
  PT.weak (pt_cmpR (kin_op o) ha (pe_glob (v := .ref (He.ga X.K x)) hg o.mg rfl hd) nobehN) fun s H Qb ⟨σ, w, R, g, h⟩ => by
    rw [evalE, bind_assoc] at h
    refine T.ofD g h fun p σ1 v H1 w1 g1 r1 t1 h1 => ?_
    cases e : kinD no kvs p.frz with
    | none => rw [e] at h1; exact h1.elim
    | some z =>
      rw [e] at h1
      obtain ⟨k, ek, rfl⟩ := kinD_some e
      rw [ek, RepD] at r1
      exact ⟨k, r1, rfl, _, rfl, h1 H1 w1 g1 t1⟩
theorem t_kat {x : Str} {kvs : List (Str × Int)} {b : Expr} {ib : E} {p pos : Pos} (o : TabOk X x kvs) (hg : Gl X x) (hd : (x == ("__debug__" : Str)) = false) (hb : PE X b (T X.K W C ib)) (hs : isSl b = false) :
    PE X (.Subscript (.Name x p) b pos) (T X.K W C (.kat kvs ib)) := by
  obtain ⟨es, n, kd, he⟩ := o.kd
  refine PE.weak (pe_ix ix_kdict (pe_glob (v := .ref (He.ga X.K x)) hg o.mg rfl hd) hb (plainIx hs)) fun s H Q ⟨σ, w, R, g, h⟩ => ?_
  rw [evalE] at h
  refine T.ofD g h fun q σ1 u H1 w1 g1 r1 t1 h1 => ?_
  obtain ⟨z, e, ok⟩ := Out.ofOpt h1
  obtain ⟨k, kv, ek, ef, rfl⟩ := katD_some e
  have hn := o.ns k
  rw [ef] at hn
  obtain ⟨t, hn⟩ := hn
  rw [ek, RepD] at r1
  exact ⟨_, k, .int kv.2, rfl, r1, ⟨es, n, _, kd.at_, kd.lit, hn, ⟨t, rfl⟩⟩, OkV.data ok g1 t1 (by rw [RepD])⟩

/-! ### x[i] op= e -/
theorem get_list : PGet X (rIxL X.K) := by
  intro pins s σ H x y v u Q I rx ry h
  obtain ⟨p, xs, i, z, rfl, rfl, hq, he, q⟩ := h
  cases rx
  obtain ⟨t, rfl⟩ := ry
  obtain ⟨its, r, pl, hz⟩ := I.list hq
  obtain ⟨j, h1, h2, h3, h4, h5⟩ := atI_get he
  obtain ⟨w, ew, rw'⟩ := r.get h2
  have hl := r.length
  have hn := line63
  have fin : EP X pins σ Q w s := ⟨z, H, I, rw', q⟩
  by_cases h0 : 0 ≤ i
  · have hj : i.toNat = j := by
      rw [seqIndex_of h0 h5] at h1
      exact Option.some.inj h1
    exact wpAny_getItem_list pl.isList h0 (by omega) (by rw [hj]; simpa using ew) fin
  · have hj : (i + (its.toArray.size : Int)).toNat = j := by
      rw [seqIndex_neg (by omega) h4] at h1
      rw [List.size_toArray, ← hl]
      exact Option.some.inj h1
    exact wpAny_getItem_list_neg pl.isList (by omega) (by rw [List.size_toArray] <;> omega) (by omega) (by rw [hj]; simpa using ew) fin
theorem st_augix {x : Str} {r : Nat} {e i : Expr} {ie ii : E} {op : Bop} {px tpos pos : Pos} (hN : X.N[r]? = some x) (hv : Vis X.env.scope x) (hd : (x == ("__debug__" : Str)) = false) (hcd : (x == ("__classdict__" : Str)) = false) (ho : op = .add ∨ op = .sub) (he : PE X e (T X.K W C ie)) (hi : PE X i (T X.K W C ii))
    (ha : ∀ ov iv new, augStore i ov iv new = (do holding [new, ov, iv] (setItem ov iv new); release [new, ov, iv] []; pure .next)) :
    PS X (.AugAssign (.Subscript (.Name x px) i tpos) (bopA op) e pos) (TSt X.K W C fu A (.augix r ii op ie)) :=
  PS.weak (ps_augS (pe_var hN hv hd hcd) hi get_list he (ip_aug ho) set_list ha) fun D s H ⟨σ, w, R, g, h⟩ => by
    rw [execS] at h
    split at h
    · rename_i p0 e0'
      obtain ⟨v0, _, _, e0, _⟩ := g.slot e0'
      refine ⟨v0, e0, T.ofSD g h fun k σ1 kv H1 w1 g1 r1 t1 h1 => ?_⟩
      split at h1
      · rename_i xs eq0
        split at h1
        · rename_i x0 ex0
          obtain ⟨v1, wr, _, e1, rp, _⟩ := g1.slot eq0
          rw [e0] at e1
          cases e1
          cases ek : k.frz with
          | int i0 =>
            rw [ek] at r1 ex0
            cases r1.intV
            rw [RepP] at rp
            obtain ⟨l, vs, w', rfl, _, hl, rs⟩ := rp
            obtain ⟨v, e2, rv⟩ := atI_repP rs (show ((L2.atI xs i0).bind fun | .d x => some x | _ => none) = some x0 from ex0)
            refine ⟨l, vs, i0, v, rfl, rfl, .of hl, e2, ?_⟩
            refine T.ofSD g1 (SOut.step h1 t1 fun _ _ => rfl) fun p σ2 ev H2 w2 g2 r2 t2 h2 => ?_
            split at h2
            · rename_i y ey
              split at h2
              · rename_i q eq
                cases es : setIxP q k.frz (.d y) with
                | none => rw [es] at h2; exact h2.elim
                | some q' =>
                  rw [es] at h2
                  obtain ⟨a, b, c, ea, eb, ec⟩ := augI_some ey
                  subst ea ec
                  rw [eb] at r2 ey
                  cases r2.intV
                  rw [RepD] at rv
                  subst rv
                  refine ⟨a, b, c, rfl, rfl, ey, ?_⟩
                  obtain ⟨xs2, i2, j, rfl, hk, ek2, _, rfl⟩ := setIxP_some es
                  rw [ek] at hk
                  cases hk
                  obtain ⟨l2, us, wi, w', el, hl2, rx, pm, upd1⟩ := g2.lst eq
                  rw [e0] at el
                  cases el
                  obtain ⟨wd, wo, rx', pm'⟩ := rx.setD (k := j) (x := .int c) (u := .int c) (by rw [RepD])
                  refine ⟨l, us, i0, j, rfl, rfl, hl2, by rw [rx.length]; exact ek2, ?_⟩
                  obtain ⟨g', x', nl, mem⟩ := upd1 (xs2.set j (.d (.int c))) (us.set j (.int c)) wd (wo ++ R) rx' (by
                    rw [← List.append_assoc]
                    exact List.Perm.append_right R pm')
                  have hlw : l ∈ w2 := pm.mem_iff.mpr (by simp)
                  refine h2 s _ ⟨_, g'.lessR (List.sublist_append_right _ _), t2.chg hl2 hlw fun b hb => ?_, fun _ _ => rfl⟩
                  simp only [List.mem_append, List.mem_cons] at hb
                  rcases hb with q | q | q
                  · rw [q]; exact hlw
                  · exact pm.mem_iff.mpr (by simp [pm'.mem_iff, q])
                  · exact pm.mem_iff.mpr (by simp [q])
              · exact h2.elim
            · exact h2.elim
          | _ => rw [ek] at ex0; simp [idxP] at ex0
        · exact h1.elim
      · exact h1.elim
    · exact h.elim

/-! ### f(k = e, ..): all by names, in the parameters' order -/
theorem PK.weak {kws : List Keyword} {t t' : TA} (h : PK X kws t) (k : ∀ σ H Q, t' σ H Q → t σ H Q) : PK X kws t' := ⟨fun ps pins s σ H Q I q => h.run ps pins s σ H Q I (k σ H Q q)⟩
theorem ldk_nil : PK X [] (TLd X.K W C []) := PK.weak pk_nil fun s H Qb ⟨σ, w, R, g, h⟩ => by
  rw [evalEs] at h
  exact h [] H w [] (by simpa using g) ⟨rfl, rfl, rfl⟩ (by simpa using Step.refl)
theorem ldk_cons {nm : Option Str} {v : Expr} {pk : Pos} {kws : List Keyword} {i : E} {is : List E} (hi : lendOf i = none) (he : PE X v (T X.K W C i)) (hr : PK X kws (TLd X.K W C is)) : PK X (⟨nm, v, pk⟩ :: kws) (TLd X.K W C (i :: is)) :=
  PK.weak (pk_cons he hr) fun s H Qb h => ld_cons_r hi h
theorem ldk_lend {x : Str} {nm : Option Str} {kws : List Keyword} {r : Nat} {is : List E} {px pk : Pos} (hN : X.N[r]? = some x) (hv : Vis X.env.scope x) (hd : (x == ("__debug__" : Str)) = false) (hcd : (x == ("__classdict__" : Str)) = false) (hr : PK X kws (TLd X.K W C is)) :
    PK X (⟨nm, .Name x px, pk⟩ :: kws) (TLd X.K W C (.lend r :: is)) :=
  PK.weak (pk_cons (pe_var hN hv hd hcd) hr) fun s H Qb h => ld_lend_r h
structure CallKw (C : CF) (X : Cx) (x : Str) (f : Nat) (ks : List Str) : Prop where
  gl : Gl X x
  nd : (x == ("__debug__" : Str)) = false
  ex : ∃ (fa : Addr) (fd : FuncData) (ps : List Str) (j : Nat), X.mg x = some (.ref fa) ∧ PySem.W.keepIn X.K (.ref fa) = true ∧ FnOk X.prog X.w X.K X.mg X.base (L2.CX X.prog X.w) j fa fd ps (spOf X.K C f ps.length) ∧ Room j X.A ∧
    (∀ as, C f as ≠ .bad → as.length = ps.length) ∧ ks = ps ∧ ∀ (s : Shared) (us : List Value), us.length = ps.length → BindsTo s fd ⟨[], ps.zip us⟩ (ps.zip us)
theorem run_fnSK {CX : CXT} {k : Nat} {f : Addr} {fd : FuncData} {ps : List Str} {sp : Sp} {E : St → XK} {pins : List (Addr × Obj)} {σ : St} {H : Hp} {s : Shared} {Q : VK} {us : List Value} {vs : List V} (F : FnOk X.prog X.w X.K X.mg X.base CX k f fd ps sp) (hr : Room k X.A)
    (hb : ∀ (s : Shared) (us : List Value), us.length = ps.length → BindsTo s fd ⟨[], ps.zip us⟩ (ps.zip us)) (hx : PassesAt CX X σ (E σ)) (I : Inv X pins σ H s) (r : Vals vs us) (h : sp vs H Q (E σ)) : wpAny (model X.prog X.w) X.A (call (.ref f) [] (ps.zip us)) (EP X pins σ Q) X.xe s := by
  have hl : us.length = ps.length := by rw [← r.length]; exact F.len _ _ _ _ h
  refine wpAny_call (codeAny_mono (F.run X.A X.stack s H ⟨[], ps.zip us⟩ us vs Q (E σ) hr I.env0 (hb s us hl) r h) fun r s' hq => ?_)
  cases r with
  | error e => exact hx pins H s e s' I hq
  | ok fl =>
    cases fl with
    | ret u => exact I.after hq
    | next => exact False.elim hq
    | brk => exact False.elim hq
    | cont => exact False.elim hq
theorem kw_map {pos : Pos} {env : Env} : ∀ {kws : List Keyword}, (backToKw pos (keywordEach kws env)).map (·.1) = kws.map (·.arg)
  | [] => rfl
  | ⟨nm, v, p⟩ :: kws => by
    have ih := kw_map (pos := pos) (env := env) (kws := kws)
    show nm :: (backToKw pos (keywordEach kws env)).map (·.1) = nm :: kws.map (·.arg)
    rw [ih]
theorem somes_all {ks : List Str} : (ks.map some).all (·.isSome) = true ∧ (ks.map some).filterMap id = ks ∧ (ks.map some).any (·.isNone) = false := by
  induction ks with
  | nil => exact ⟨rfl, rfl, rfl⟩
  | cons k ks ih => exact ⟨by simp, by simpa using ih.2.1, by simp⟩
theorem kw_names {pos : Pos} {env : Env} {kws : List Keyword} {ks : List Str} (h : kws.map (·.arg) = ks.map some) : (backToKw pos (keywordEach kws env)).all (·.1.isSome) = true ∧ (backToKw pos (keywordEach kws env)).filterMap (·.1) = ks ∧ (backToKw pos (keywordEach kws env)).any (·.1.isNone) = false := by
  have m := kw_map (pos := pos) (env := env) (kws := kws)
  rw [h] at m
  obtain ⟨a1, a2, a3⟩ := somes_all (ks := ks)
  rw [← m, List.all_map] at a1
  rw [← m, List.filterMap_map] at a2
  rw [← m, List.any_map] at a3
  exact ⟨a1, a2, a3⟩
theorem t_callK {x : Str} {f : Nat} {kws : List Keyword} {is : List E} {ks : List Str} {p pos : Pos} (tk : Takes X W) (hc : CallKw C X x f ks) (hn : kws.map (·.arg) = ks.map some) (ha : PK X kws (TLd X.K W C is)) : PE X (.Call (.Name x p) [] kws pos) (T X.K W C (.call f is)) := by
  obtain ⟨fa, fd, ps, j, hm, hk, F, hr, har, rfl, hb⟩ := hc.ex
  obtain ⟨n1, n2, n3⟩ := kw_names (pos := pos) (env := X.env) hn
  refine ⟨fun pins s0 s H Q I ⟨σ, w, R, g, h⟩ => ?_⟩
  refine wpAny_Call_Name_kw (ld_glob I hc.gl hm ?_ hc.nd)
  have rd : TLd X.K W C is s H fun vs H1 => spOf X.K C f ks.length vs H1 Q (WE W s) := by
    rw [evalE] at h
    refine TLd.of g h fun ps' σ1 vs H1 w1 wv g1 r1 t1 h1 => ?_
    exact call_end har g1 r1 t1 h1
  refine PySem.W.callWith_KW0 (h₀ := X.base) I.ok.mod.kin hk n1 (thn (ha.run pos pins s0 s H _ I rd) fun ws s2 ⟨zs, H2, I2, rz, q2⟩ => ⟨I2.kIn, ?_⟩) (by rw [n3]; rfl)
  rw [n2]
  exact run_fnSK (E := WE W) F hr hb (passAt tk s) I2 rz q2
end
end R

/-! E5: dicts in slots. -/
namespace R
open PySem PySem.Spec L2
open PyProof.Rows hiding St
theorem keyD_inj {a b : L2.Key} (h : keyD a = keyD b) : a = b := by
  cases a <;> cases b <;> simp [keyD] at h <;> rw [h]
theorem keyOk_some {t : Bool} {k : Dat} (h : keyOk t k = true) : t = false ∧ ∃ q, k = keyD q := by
  unfold keyOk at h
  split at h
  · exact ⟨rfl, .inl _, rfl⟩
  · exact ⟨rfl, .inr _, rfl⟩
  · cases h
theorem RepD.key {K : PySem.W.Frag} {H : Hp} {O : List Addr} {q : L2.Key} {y : V} (r : RepD K H O (keyD q) y) : y = kV q := by
  cases q <;> (rw [keyD, RepD] at r; exact r)
theorem valV_some (k : L2.Key) : ∀ kvs : List (L2.Key × V), (valV kvs k).isSome = decide (keyD k ∈ kvs.map fun p => keyD p.1)
  | [] => by simp [valV]
  | p :: kvs => by
    have ih := valV_some k kvs
    unfold valV at ih ⊢
    by_cases h : p.1 = k
    · simp [List.find?_cons, h]
    · have h2 : ¬ keyD k = keyD p.1 := fun e => h (keyD_inj e).symm
      simp only [List.find?_cons, h, decide_false, List.map_cons, List.mem_cons, h2, false_or]
      exact ih
section
variable {K : PySem.W.Frag} {W : WX} {C : CF} {fu : Nat} {A : List Nat} {H H1 H2 H' : Hp} {s : St} {w w1 w2 R O O' : List Addr} {σ σ1 σ2 : Sto} {Q : VK} {X : Cx}
theorem lookD_end {q : L2.Key} : ∀ {kvs : List (L2.Key × V)} {vs : List Dat} {x : Dat}, RepDs K H O vs (kvs.map (·.2)) → lookD (keyD q) (kvs.map fun p => keyD p.1) vs = some x → ∃ v, valV kvs q = some v ∧ RepD K H O x v
  | [], _, _, _, e => by simp [lookD] at e
  | p :: kvs, [], _, _, e => by simp [lookD] at e
  | p :: kvs, d :: vs, x, r, e => by
    rw [List.map_cons, RepDs] at r
    obtain ⟨v, t, ev, r1, r2⟩ := r
    injection ev with ev1 ev2
    subst ev1 ev2
    rw [List.map_cons, lookD] at e
    by_cases h : p.1 = q
    · rw [if_pos (by rw [h])] at e
      cases e
      exact ⟨p.2, by simp [valV, List.find?_cons, h], r1⟩
    · rw [if_neg (fun z => h (keyD_inj z))] at e
      obtain ⟨v, e2, r3⟩ := lookD_end r2 e
      refine ⟨v, ?_, r3⟩
      unfold valV at e2 ⊢
      simp only [List.find?_cons, h, decide_false]
      exact e2
/-- a dict in a slot -/
theorem dicP_rep {p : PV} {t : Bool} {ks vs : List Dat} {v : V} {wr : List Addr} (e : dicP p = some (t, ks, vs)) (r : RepP K H O p v wr) : ∃ a us o, v = .ref a ∧ H a = some o ∧ DicO t ks us o ∧ RepDs K H O vs us := by
  unfold dicP at e
  split at e
  · cases e
    rw [RepP] at r
    obtain ⟨a, us, o, e, _, q, hd, rs⟩ := r
    exact ⟨a, us, o, e, q, hd, rs⟩
  · cases e
    rw [RepP, RepD] at r
    obtain ⟨_, a, us, o, e, _, q, hd, rs⟩ := r
    exact ⟨a, us, o, e, q, hd, rs⟩
  · cases e
theorem din_end {no : Bool} {k : Dat} {p z : PV} {v y : V} {wr : List Addr} (e : dinP no k p = some z) (r : RepP K H O p v wr) (rk : RepD K H O' k y) : ∃ a o, v = .ref a ∧ DGet H a y o ∧ z = .d (.bl (o.isSome != no)) := by
  unfold dinP at e
  cases ed : dicP p with
  | none => rw [ed] at e; cases e
  | some q =>
    obtain ⟨t, ks, vs⟩ := q
    rw [ed] at e
    simp only [Option.bind_some] at e
    split at e
    · rename_i hk
      cases e
      obtain ⟨rfl, q, rfl⟩ := keyOk_some hk
      obtain ⟨a, us, o, rfl, ho, hd, _⟩ := dicP_rep ed r
      obtain ⟨kvs, rfl, rfl, _⟩ := hd
      refine ⟨a, valV kvs q, rfl, .inl ⟨kvs, q, .inl ho, rk.key, rfl⟩, ?_⟩
      rw [valV_some]
    · cases e
theorem dget_end {k : Dat} {p z : PV} {v y : V} {wr : List Addr} (e : dgetP k p = some z) (r : RepP K H O p v wr) (rk : RepD K H O' k y) : ∃ a u x, v = .ref a ∧ DGet H a y (some u) ∧ z = .d x ∧ RepD K H O x u := by
  unfold dgetP at e
  cases ed : dicP p with
  | none => rw [ed] at e; cases e
  | some q =>
    obtain ⟨t, ks, vs⟩ := q
    rw [ed] at e
    simp only [Option.bind_some] at e
    split at e
    · rename_i hk
      obtain ⟨rfl, q, rfl⟩ := keyOk_some hk
      obtain ⟨a, us, o, rfl, ho, hd, rs⟩ := dicP_rep ed r
      obtain ⟨kvs, rfl, rfl, rfl⟩ := hd
      cases el : lookD (keyD q) (kvs.map fun p => keyD p.1) vs with
      | none => rw [el] at e; cases e
      | some x =>
        rw [el] at e
        cases e
        obtain ⟨u, e2, r2⟩ := lookD_end rs el
        exact ⟨a, u, x, rfl, .inl ⟨kvs, q, .inl ho, rk.key, e2.symm⟩, rfl, r2⟩
    · cases e
theorem t_din {n : Nat} (hr : Room n X.A) {no : Bool} {x : Str} {r : Nat} {a : Expr} {ia : E} {p pos : Pos} (hN : X.N[r]? = some x) (hv : Vis X.env.scope x) (hd : (x == ("__debug__" : Str)) = false) (hcd : (x == ("__classdict__" : Str)) = false) (ha : PE X a (T X.K W C ia)) :
    PE X (.Compare a [if no then .NotIn else .In] [.Name x p] pos) (T X.K W C (.din no ia r)) := by
  have hu : X.A.units + 1 < cLine := by have := hr.units; omega
  have main : ∀ f : Bool → Bool, (∀ b, (b != no) = f b) → ∀ s H Q, T X.K W C (.din no ia r) s H Q → T X.K W C ia s H fun y H1 => ∃ v, s[r]? = some (some v) ∧ ∃ a o, v = V.ref a ∧ DGet H1 a y o ∧ Q (.bl (f o.isSome)) H1 := fun f hf s H Q ⟨σ, w, R, g, h⟩ => by
    rw [evalE] at h
    refine T.ofD g h fun p σ1 v H1 w1 g1 r1 t1 h1 => ?_
    split at h1
    · rename_i q eq
      obtain ⟨u, wr, _, es, rp, _⟩ := g1.slot eq
      obtain ⟨z, e, ok⟩ := Out.ofOpt h1
      obtain ⟨a, o, rfl, hg, rfl⟩ := din_end e rp r1
      exact ⟨_, es, a, o, rfl, hg, OkV.data ok g1 t1 (by rw [RepD, hf])⟩
    · exact h1.elim
  cases no with
  | false =>
    exact PE.weak (pe_cmp (pc_din hu ha (pe_var hN hv hd hcd)) nobehN) fun s H Q h => by
      exact main (fun b => b) (fun b => by simp) s H Q h
  | true =>
    exact PE.weak (pe_cmp (pc_dnotin hu ha (pe_var hN hv hd hcd)) nobehN) fun s H Q h => by
      exact main (fun b => !b) (fun b => by simp) s H Q h
theorem tt_din {n : Nat} (hr : Room n X.A) {no : Bool} {x : Str} {r : Nat} {a : Expr} {ia : E} {p pos : Pos} (hN : X.N[r]? = some x) (hv : Vis X.env.scope x) (hd : (x == ("__debug__" : Str)) = false) (hcd : (x == ("__classdict__" : Str)) = false) (ha : PE X a (T X.K W C ia)) :
    PT X (.Compare a [if no then .NotIn else .In] [.Name x p] pos) (TT' X.K W C (.din no ia r)) := by
  have hu : X.A.units + 1 < cLine := by have := hr.units; omega
  have main : ∀ f : Bool → Bool, (∀ b, (b != no) = f b) → ∀ s H Qb, TT' X.K W C (.din no ia r) s H Qb → T X.K W C ia s H fun y H1 => ∃ v, s[r]? = some (some v) ∧ ∃ a o, v = V.ref a ∧ DGet H1 a y o ∧ ∃ c, V.bl (f o.isSome) = .bl c ∧ Qb c H1 := fun f hf s H Qb ⟨σ, w, R, g, h⟩ => by
    rw [evalE, bind_assoc] at h
    refine T.ofD g h fun p σ1 v H1 w1 g1 r1 t1 h1 => ?_
    split at h1
    · rename_i q eq
      obtain ⟨u, wr, _, es, rp, _⟩ := g1.slot eq
      cases e : dinP no p.frz q with
      | none => rw [e] at h1; exact h1.elim
      | some z =>
        rw [e] at h1
        obtain ⟨a, o, rfl, hg, rfl⟩ := din_end e rp r1
        exact ⟨_, es, a, o, rfl, hg, _, by rw [← hf], h1 H1 w1 g1 t1⟩
    · exact h1.elim
  cases no with
  | false =>
    exact PT.weak (pt_cmp (pc_din hu ha (pe_var hN hv hd hcd)) nobehN) fun s H Q h => by
      exact main (fun b => b) (fun b => by simp) s H Q h
  | true =>
    exact PT.weak (pt_cmp (pc_dnotin hu ha (pe_var hN hv hd hcd)) nobehN) fun s H Q h => by
      exact main (fun b => !b) (fun b => by simp) s H Q h
theorem t_dget {n : Nat} (hr : Room n X.A) {x : Str} {r : Nat} {b : Expr} {ib : E} {p pos : Pos} (hN : X.N[r]? = some x) (hv : Vis X.env.scope x) (hd : (x == ("__debug__" : Str)) = false) (hcd : (x == ("__classdict__" : Str)) = false) (hb : PE X b (T X.K W C ib)) (hs : isSl b = false) :
    PE X (.Subscript (.Name x p) b pos) (T X.K W C (.dget r ib)) := by
  have hu : X.A.units + 1 < cLine := by have := hr.units; omega
  refine PE.weak (pe_dget hu (pe_var hN hv hd hcd) hb (fun ov iv => (plainIx hs) ov iv)) fun s H Q ⟨σ, w, R, g, h⟩ => ?_
  rw [evalE] at h
  split at h
  · rename_i p0 e0
    obtain ⟨v0, _, _, es, _⟩ := g.slot e0
    refine ⟨v0, es, ?_⟩
    refine T.ofD g h fun q σ1 u H1 w1 g1 r1 t1 h1 => ?_
    split at h1
    · rename_i p e
      obtain ⟨v, wr, _, es', rp, _⟩ := g1.slot e
      rw [es] at es'
      cases es'
      obtain ⟨z, ez, ok⟩ := Out.ofOpt h1
      obtain ⟨a, uu, x, rfl, hg, rfl, rx⟩ := dget_end ez rp r1
      exact ⟨a, uu, rfl, hg, OkV.data ok g1 t1 rx⟩
    · exact h1.elim
  · exact h.elim
/-! ### a new dict -/
theorem OkV.newD {t : Bool} {o : HO} (h : OkV K H s w R Q (.dic t [] []) σ1) (g : Good K H1 σ1 s w1 R) (ts : Step w H w1 H1) {p : Addr} (hp : H1 p = none) (hd : DicO t [] [] o) : Q (.ref p) (upd H1 p o) := by
  have k := upd_keep (o := o) hp
  have mo : Mut (some o) := by
    rcases hd.is with ⟨kvs, rfl⟩ | ⟨kvs, rfl⟩ <;> exact True.intro
  have np : p ∉ w1 ++ R := fun z => by
    have m := g.mu p z
    rw [hp] at m
    exact m
  have g' := g.keep k
  have x : Ext K H1 (w1 ++ R) (upd H1 p o) (w1 ++ (p :: R)) := (Step.same (w := w1) k).ext (fun b hb => g.mu b (List.mem_append_left _ hb)) (fun b hb => List.mem_append_left _ hb) fun b hb => by
    rcases List.mem_append.mp hb with q | q
    · exact .inl (List.mem_append_left _ q)
    · rcases List.mem_cons.mp q with q | q
      · rw [q]
        exact .inr hp
      · exact .inl (List.mem_append_right _ q)
  refine h _ _ ⟨w1, [p], ⟨g.rep.ext x (fun a _ o e => k a o e), ?_, fun b hb => ?_⟩, ?_, ⟨fun b o e n => k b o (ts.keep b o e n), fun b hb => ?_⟩⟩
  · have e : (w1 ++ ([p] ++ R)).Perm (p :: (w1 ++ R)) := by
      show (w1 ++ p :: R).Perm _
      exact List.perm_middle
    rw [e.nodup_iff, List.nodup_cons]
    exact ⟨np, g.nd⟩
  · have hb' : b = p ∨ b ∈ w1 ++ R := by
      rcases List.mem_append.mp hb with q | q
      · exact .inr (List.mem_append_left _ q)
      · rcases List.mem_cons.mp q with q | q
        · exact .inl q
        · exact .inr (List.mem_append_right _ q)
    rcases hb' with q | q
    · rw [q, upd_same]
      exact mo
    · exact g'.mu b q
  · rw [RepP]
    exact ⟨p, [], o, rfl, rfl, upd_same, hd, by rw [RepDs]⟩
  · rcases List.mem_append.mp hb with q | q
    · exact ts.old b q
    · have q : b = p := by simpa using q
      rw [q]
      cases e : H p with
      | none => exact .inr rfl
      | some o =>
        by_cases z : p ∈ w
        · exact .inl z
        · rw [ts.keep p o e z] at hp; cases hp
theorem t_dnew {t : Bool} {pos : Pos} : PE X (.Dict [] [] pos) (T X.K W C (.dnew t)) := by
  cases t with
  | false =>
    exact PE.weak pe_dnewK fun s H Q ⟨σ, w, R, g, h⟩ p hp => by
      rw [evalE] at h
      exact OkV.newD h g Step.refl hp ⟨[], rfl, rfl, rfl⟩
  | true =>
    exact PE.weak pe_dnewT fun s H Q ⟨σ, w, R, g, h⟩ p hp => by
      rw [evalE] at h
      exact OkV.newD h g Step.refl hp ⟨[], rfl, rfl, rfl⟩
/-! ### a dict that is owned, changed -/
theorem Ext.updD {l : Addr} {o o' : HO} (hl : H l = some o) (hd : IsDO o) (hO : l ∈ O) : Ext K H O (L2.upd H l o') O where
  tup := fun a vs q => by
    rcases q with (q | ⟨o, q⟩) | q
    · exact .inl (.inl (by rw [upd_ne (ne_of q hl (by intro z; rcases hd with ⟨_, rfl⟩ | ⟨_, rfl⟩ <;> cases z))]; exact q))
    · exact .inl (.inr ⟨o, by rw [upd_ne (ne_of q hl (by intro z; rcases hd with ⟨_, rfl⟩ | ⟨_, rfl⟩ <;> cases z))]; exact q⟩)
    · exact .inr q
  lst := fun a vs q n => ⟨by rw [upd_ne (fun z => n (by rw [z]; exact hO))]; exact q, n⟩
  scr := fun a vs q => by
    rcases q with ⟨o, q⟩ | q
    · exact .inl ⟨o, by rw [upd_ne (ne_of q hl (by intro z; rcases hd with ⟨_, rfl⟩ | ⟨_, rfl⟩ <;> cases z))]; exact q⟩
    · exact .inr q
  dic := fun a o _ q n => ⟨by rw [upd_ne (fun z => n (by rw [z]; exact hO))]; exact q, n⟩
theorem Good.dic (g : Good K H σ s w R) {r : Nat} {t : Bool} {ks vs : List Dat} (e : σ[r]? = some (some (.dic t ks vs))) :
    ∃ l us o w', s[r]? = some (some (.ref l)) ∧ H l = some o ∧ DicO t ks us o ∧ RepDs K H (w ++ R) vs us ∧ w.Perm (l :: w') ∧
      ∀ ks' vs' us' o', DicO t ks' us' o' → RepDs K H (w ++ R) vs' us' → Good K (upd H l o') (σ.set r (some (.dic t ks' vs'))) s (l :: w') R := by
  obtain ⟨v, wr, w', es, rp, rs, pm⟩ := g.slot e
  rw [RepP] at rp
  obtain ⟨l, us, o, rfl, rfl, hl, hd, rds⟩ := rp
  refine ⟨l, us, o, w', es, hl, hd, rds, pm, fun ks' vs' us' o' hd' rd' => ?_⟩
  have pmO : (w ++ R).Perm ((l :: w') ++ R) := List.Perm.append_right R pm
  have nd := pmO.nodup_iff.mp g.nd
  have mem : ∀ b, b ∈ (l :: w') ++ R → b ∈ w ++ R := fun b hb => pmO.mem_iff.mpr hb
  have hlO : l ∈ w ++ R := mem l (by simp)
  have nl : l ∉ w' ++ R := by
    have h2 : (l :: (w' ++ R)).Nodup := nd
    exact (List.nodup_cons.mp h2).1
  have kp : ∀ a ∈ w' ++ R, ∀ o, H a = some o → upd H l o' a = some o := fun a ha o e => by
    rw [upd_ne (fun z => nl (by rw [← z]; exact ha))]
    exact e
  have x0 : Ext K H (w ++ R) (upd H l o') (w ++ R) := Ext.updD hl hd.is hlO
  have less : Ext K (upd H l o') (w ++ R) (upd H l o') ((l :: w') ++ R) := Ext.less mem
  refine ⟨?_, nd, fun b hb => ?_⟩
  · have rs' := (rs.ext x0 (fun a ha o e => kp a (List.mem_append_left _ ha) o e)).ext less fun _ _ _ q => q
    have rd2 := RepDs.ext less _ _ (RepDs.ext x0 _ _ rd')
    exact rs'.put (p := .dic t ks' vs') (wr := [l]) es (by rw [RepP]; exact ⟨l, us', o', rfl, rfl, upd_same, hd', rd2⟩)
  · by_cases z : b = l
    · rw [z, upd_same]
      rcases hd'.is with ⟨kvs, rfl⟩ | ⟨kvs, rfl⟩ <;> exact True.intro
    · rw [upd_ne z]
      exact g.mu b (mem b hb)
theorem putV_rep {q : L2.Key} {d : Dat} {v : V} (rv : RepD K H O d v) : ∀ {kvs : List (L2.Key × V)} {vs : List Dat}, RepDs K H O vs (kvs.map (·.2)) → RepDs K H O (putV (keyD q) d (kvs.map fun p => keyD p.1) vs) ((kvs.map fun kv => if kv.1 = q then (kv.1, v) else kv).map (·.2))
  | [], [], _ => by simp [putV, RepDs]
  | [], _ :: _, r => by
    rw [List.map_nil, RepDs] at r
    obtain ⟨_, _, e, _⟩ := r
    cases e
  | p :: kvs, [], r => by
    rw [RepDs] at r
    cases r
  | p :: kvs, x :: vs, r => by
    rw [List.map_cons, RepDs] at r
    obtain ⟨u, t, e, r1, r2⟩ := r
    injection e with e1 e2
    subst e1 e2
    have ih := putV_rep (q := q) rv r2
    rw [List.map_cons, List.map_cons, List.map_cons, putV, RepDs]
    by_cases h : p.1 = q
    · refine ⟨v, _, by simp [h], ?_, ih⟩
      rw [if_pos (by rw [h])]
      exact rv
    · refine ⟨p.2, _, by simp [h], ?_, ih⟩
      rw [if_neg (fun z => h (keyD_inj z))]
      exact r1
theorem dput_end {k d : Dat} {t : Bool} {ks vs : List Dat} {p' : PV} {v y : V} {us : List V} {o : HO} (e : dputP k d (.dic t ks vs) = some p') (hd : DicO t ks us o) (rs : RepDs K H O vs us) (rk : RepD K H O' k y) (rv : RepD K H O d v) :
    ∃ kvs q ks' vs' us', o = .dK kvs ∧ y = kV q ∧ kvs.length < sizeLine ∧ p' = .dic t ks' vs' ∧ DicO t ks' us' (.dK (putK kvs q v)) ∧ RepDs K H O vs' us' := by
  unfold dputP at e
  simp only at e
  split at e
  · rename_i hk
    rw [Bool.and_eq_true, decide_eq_true_eq] at hk
    obtain ⟨rfl, q, rfl⟩ := keyOk_some hk.1
    obtain ⟨kvs, rfl, rfl, rfl⟩ := hd
    have hl : kvs.length < sizeLine := by simpa using hk.2
    cases e
    by_cases hm : keyD q ∈ kvs.map fun p => keyD p.1
    · have ha : (kvs.any fun kv => decide (kv.1 = q)) = true := by
        obtain ⟨z, hz, ez⟩ := List.mem_map.mp hm
        exact List.any_eq_true.mpr ⟨z, hz, decide_eq_true (keyD_inj ez)⟩
      refine ⟨kvs, q, kvs.map fun p => keyD p.1, putV (keyD q) d (kvs.map fun p => keyD p.1) vs, _, rfl, rk.key, hl, by rw [if_pos hm], ⟨putK kvs q v, rfl, ?_, rfl⟩, ?_⟩
      · unfold putK
        rw [if_pos ha, List.map_map]
        refine List.map_congr_left fun z hz => ?_
        simp only [Function.comp_apply]
        split <;> rfl
      · unfold putK
        rw [if_pos ha]
        exact putV_rep rv rs
    · have ha : ¬ (kvs.any fun kv => decide (kv.1 = q)) = true := fun h => hm (by
        obtain ⟨z, hz, ez⟩ := List.any_eq_true.mp h
        exact List.mem_map.mpr ⟨z, hz, by rw [of_decide_eq_true ez]⟩)
      refine ⟨kvs, q, (kvs.map fun p => keyD p.1) ++ [keyD q], vs ++ [d], _, rfl, rk.key, hl, by rw [if_neg hm], ⟨putK kvs q v, rfl, ?_, rfl⟩, ?_⟩
      · unfold putK
        rw [if_neg ha]
        simp
      · unfold putK
        rw [if_neg ha, List.map_append]
        exact rs.append (by rw [List.map_cons, List.map_nil, RepDs]; exact ⟨v, [], rfl, rv, by rw [RepDs]⟩)
  · cases e
theorem dputP_dic {k d : Dat} {p p' : PV} (e : dputP k d p = some p') : ∃ t ks vs, p = .dic t ks vs := by
  cases p <;> first
    | exact ⟨_, _, _, rfl⟩
    | simp [dputP] at e
theorem st_dput {n : Nat} (hr : Room n X.A) {x : Str} {r : Nat} {e i : Expr} {ie ii : E} {px tpos pos : Pos} (hN : X.N[r]? = some x) (hv : Vis X.env.scope x) (hd : (x == ("__debug__" : Str)) = false) (hcd : (x == ("__classdict__" : Str)) = false) (he : PE X e (T X.K W C ie)) (hi : PE X i (T X.K W C ii))
    (hs : swapsWith e (some (.Subscript (.Name x px) i tpos)) pos.line X.env = pure false) :
    PS X (.Assign [.Subscript (.Name x px) i tpos] e pos) (TSt X.K W C fu A (.dput r ii ie)) := by
  have hu : X.A.units + 1 < cLine := by have := hr.units; omega
  exact PS.weak (ps_dput hu (pe_var hN hv hd hcd) hi he hs) fun D s H ⟨σ, w, R, g, h⟩ => by
    rw [execS] at h
    refine T.ofSD g h fun p σ1 v H1 w1 g1 r1 t1 h1 => ?_
    split at h1
    · rename_i q0 eq0
      obtain ⟨v0, _, _, e0, _⟩ := g1.slot eq0
      refine ⟨v0, e0, ?_⟩
      refine T.ofSD g1 (SOut.step h1 t1 fun _ _ => rfl) fun k σ2 kv H2 w2 g2 r2 t2 h2 => ?_
      split at h2
      · rename_i q eq
        cases es : dputP k.frz p.frz q with
        | none => rw [es] at h2; exact h2.elim
        | some q' =>
          rw [es] at h2
          obtain ⟨t, ks, vs, rfl⟩ := dputP_dic es
          obtain ⟨l, us, o, w', el, hl, hdo, rds, pm, upd1⟩ := g2.dic eq
          rw [e0] at el
          cases el
          have rv := RepD.ext (g1.ext t2) _ _ r1
          obtain ⟨kvs, qk, ks', vs', us', rfl, ey, hlen, rfl, hd', rd'⟩ := dput_end es hdo rds r2 rv
          refine ⟨l, _, rfl, .inl ⟨kvs, qk, hl, ey, hlen, rfl⟩, ?_⟩
          have g' := upd1 ks' vs' us' _ hd' rd'
          have hlw : l ∈ w2 := pm.mem_iff.mpr (by simp)
          refine h2 s _ ⟨_, g', ⟨fun b u e n => ?_, fun b hb => ?_⟩, fun _ _ => rfl⟩
          · rw [upd_ne]
            · exact t2.keep b u e n
            · intro z
              subst z
              rcases t2.old b hlw with q | q
              · exact n q
              · rw [e] at q; cases q
          · exact t2.old b (pm.mem_iff.mpr hb)
      · exact h2.elim
    · exact h1.elim
end
end R

/-! E6: comprehensions over a slot that is left as it is. -/
namespace R
open PySem PySem.Spec L2
open PyProof.Rows hiding St
section
variable {K : PySem.W.Frag} {W : WX} {C : CF} {fu : Nat} {A : List Nat} {H H1 H2 H' : Hp} {s : St} {w w1 w2 R O O' : List Addr} {σ σ1 σ2 : Sto} {Q : VK} {X : Cx}
theorem walk_lV {a : Addr} {ds : List Dat} {vs : List V} : WalkP K (Itl K a) (.l ds) [a] fun H O => H a = some (.lst vs) ∧ RepDs K H O ds vs := by
  refine ⟨fun x k h => ⟨k a (by simp) _ h.1, RepDs.ext x _ _ h.2⟩, fun i H O hi h => ?_, fun H O h => ?_, fun i H O v H' x hx h _ y => ?_⟩
  · obtain ⟨v, hv, _⟩ := h.2.get (List.getElem?_eq_getElem hi)
    exact ⟨vs, v, .inl (.inl h.1), hv⟩
  · exact ⟨vs, .inl (.inl h.1), Nat.le_of_eq h.2.length⟩
  · obtain ⟨rfl, y⟩ := y
    obtain ⟨v', hv, rv⟩ := h.2.get hx
    have := y vs (.inl (.inl h.1))
    rw [hv] at this
    cases this
    exact ⟨fun _ _ e => e, rv⟩
theorem walk_enV {a : Addr} {ds : List Dat} {vs : List V} : WalkP K (Ite K a) (.l (enumD 0 ds)) [a] fun H O => H a = some (.lst vs) ∧ RepDs K H O ds vs := by
  refine ⟨fun x k h => ⟨k a (by simp) _ h.1, RepDs.ext x _ _ h.2⟩, fun i H O hi h => ?_, fun H O h => ?_, fun i H O v H' x hx h mu y => ?_⟩
  · have hi' : i < ds.length := by simpa [Its.len, enumD_len] using hi
    obtain ⟨v, hv, _⟩ := h.2.get (List.getElem?_eq_getElem hi')
    exact ⟨vs, v, .inl (.inl h.1), hv⟩
  · refine ⟨vs, .inl (.inl h.1), ?_⟩
    rw [h.2.length, Its.len, enumD_len]
    exact Nat.le_refl _
  · obtain ⟨T, x', rfl, hT, rfl, y⟩ := y
    rw [Its.at?, enumD_at] at hx
    cases ex : ds[i]? with
    | none => rw [ex] at hx; cases hx
    | some z =>
      rw [ex] at hx
      cases hx
      obtain ⟨v', hv, rv⟩ := h.2.get ex
      have := y vs (.inl (.inl h.1))
      rw [hv] at this
      cases this
      refine RepD.pair hT mu ?_ rv
      rw [RepD]
      simp
variable (K) in
/-- what a source looks like for the time -/
def VwAt (H : Hp) (O P : List Addr) (x : Dat) (v : V) : Prop := (∃ a vs ds, x = .lst ds ∧ v = .ref a ∧ P = [a] ∧ H a = some (.lst vs) ∧ RepDs K H O ds vs) ∨ (P = [] ∧ RepD K H O x v)
variable (K) in
def TIrV (k : SK) (r : Nat) : TI := fun s H Rr => ∃ v x its O P, s[r]? = some (some v) ∧ itsOf k [x] = some its ∧ VwAt K H O P x v ∧ ∀ J G, WalkP K J its P G → G H O → Rr J H
theorem vw_at {p : PV} {x : Dat} {v : V} {wr : List Addr} (e : vwP p = some x) (r : RepP K H O p v wr) : ∃ P, (∀ b ∈ P, b ∈ wr) ∧ VwAt K H O P x v := by
  unfold vwP at e
  split at e
  · cases e
    rw [RepP] at r
    exact ⟨[], fun b hb => (by cases hb), .inr ⟨rfl, r.2⟩⟩
  · rename_i xs
    cases ea : allD xs with
    | none => rw [ea] at e; cases e
    | some ds =>
      rw [ea] at e
      cases e
      have := allD_some ea
      subst this
      rw [RepP] at r
      obtain ⟨a, vs, w', rfl, rfl, ha, rs⟩ := r
      exact ⟨[a], fun b hb => by simp at hb; simp [hb], .inl ⟨a, vs, ds, rfl, rfl, rfl, ha, rs.toD.2⟩⟩
  · cases e
theorem lc_readV {k : SK} {r : Nat} {tg : Tg} {cs : List E} {own : List Nat} {elt : E} (h : T K W C (.compV k r tg cs own elt) s H Q) : tLc (TIrV K k r) (TGt K own tg) (TTs K WN C cs) (T K WN C elt) own s H Q := by
  obtain ⟨σ, w, R, g, h⟩ := h
  rw [evalE] at h
  split at h
  · rename_i p ep
    split at h
    · rename_i x ex
      split at h
      · rename_i its ei
        obtain ⟨v, wr, w', es, rp, rs, pm⟩ := g.slot ep
        obtain ⟨P, hP, hV⟩ := vw_at ex rp
        have pmO : (w ++ R).Perm (w' ++ (wr ++ R)) := by
          refine (List.Perm.append_right R pm).trans ?_
          rw [← List.append_assoc]
          exact List.Perm.append_right R List.perm_append_comm
        have mem : ∀ b, b ∈ w' ++ (wr ++ R) → b ∈ w ++ R := fun b hb => pmO.mem_iff.mpr hb
        have less : Ext K H (w ++ R) H (w' ++ (wr ++ R)) := Ext.less mem
        have g' : Good K H (σ.set r none) s w' (wr ++ R) := ⟨rs.ext less fun _ _ _ q => q, pmO.nodup_iff.mp g.nd, fun b hb => g.mu b (mem b hb)⟩
        have rp' : RepP K H (w' ++ (wr ++ R)) p v wr := RepP.ext less _ _ _ (fun _ _ _ q => q) rp
        have hw : ∀ b, b ∈ w' → b ∈ w := fun b hb => pm.mem_iff.mpr (List.mem_append_right _ hb)
        have hwr : ∀ b, b ∈ wr → b ∈ w := fun b hb => pm.mem_iff.mpr (List.mem_append_left _ hb)
        have hlt : r < s.length := (List.getElem?_eq_some_iff.mp es).1
        have hss : s.set r (some v) = s := by
          apply List.ext_getElem?
          intro j
          by_cases z : r = j
          · subst z
            rw [List.getElem?_set_self hlt, es]
          · rw [List.getElem?_set_ne z]
        have hVw : VwAt K H (w' ++ (wr ++ R)) P x v := by
          rcases hV with ⟨a, vs, ds, h1, h2, h3, h4, h5⟩ | ⟨h1, h2⟩
          · exact .inl ⟨a, vs, ds, h1, h2, h3, h4, RepDs.ext less _ _ h5⟩
          · exact .inr ⟨h1, RepD.ext less _ _ h2⟩
        refine ⟨v, x, its, w' ++ (wr ++ R), P, es, ei, hVw, fun J G wd hG => lc_gen (W := W) (P := P) (fun b hb => List.mem_append_left _ (hP b hb)) (σ1 := σ.set r none) ?_ g' Step.refl wd hG⟩
        generalize its.comp _ _ = rc at h ⊢
        cases rc with
        | bad => exact h
        | exc c fs τ =>
          rintro cls d H' ⟨w2, g2, t2, x2⟩
          refine h cls d H' ⟨w2, g2.lessR (List.sublist_append_right _ _), ⟨fun b o e n => t2.keep b o e fun z => n (hw b z), fun b hb => ?_⟩, x2.less fun b hb => ?_⟩
          · rcases t2.old b hb with q | q
            · exact .inl (hw b q)
            · exact .inr q
          · rcases List.mem_append.mp hb with q | q
            · exact List.mem_append_left _ q
            · exact List.mem_append_right _ (List.mem_append_right _ q)
        | ok vs τ =>
          rintro u H' ⟨w2, wv, g2, r2, t2⟩
          obtain ⟨xx, kk⟩ := g'.pend t2
          have rq : RepP K H' (w2 ++ (wv ++ (wr ++ R))) p v wr := RepP.ext xx _ _ _ (fun a ha o e => kk a (List.mem_append_left _ ha) o e) rp'
          have pm2 : (wv ++ (wr ++ R)).Perm (wr ++ (wv ++ R)) := by
            rw [← List.append_assoc, ← List.append_assoc]
            exact List.Perm.append_right R List.perm_append_comm
          have g3 := g2.permR pm2
          have rq' : RepP K H' (w2 ++ (wr ++ (wv ++ R))) p v wr := RepP.ext (Ext.less fun b hb => (List.Perm.append_left w2 pm2).mem_iff.mpr hb) _ _ _ (fun _ _ _ q => q) rq
          obtain ⟨w3, g4, sub⟩ := g3.set (i := r) rq'
          rw [hss] at g4
          refine h u H' ⟨w3, wv, g4, RepP.ext (Ext.less fun b hb => ?_) _ _ _ (fun _ _ _ q => q) r2, ⟨fun b o e n => t2.keep b o e fun z => n (hw b z), fun b hb => ?_⟩⟩
          · rcases List.mem_append.mp hb with q | q
            · rcases List.mem_append.mp (sub b q) with q | q
              · exact List.mem_append_left _ q
              · exact List.mem_append_right _ (List.mem_append_right _ (List.mem_append_left _ q))
            · rcases List.mem_append.mp q with q | q
              · exact List.mem_append_right _ (List.mem_append_left _ q)
              · exact List.mem_append_right _ (List.mem_append_right _ (List.mem_append_right _ q))
          · have old : ∀ b, b ∈ w2 ++ wv → b ∈ w ∨ H b = none := fun b hb => by
              rcases t2.old b hb with q | q
              · exact .inl (hw b q)
              · exact .inr q
            rcases List.mem_append.mp hb with q | q
            · rcases List.mem_append.mp (sub b q) with q | q
              · exact old b (List.mem_append_left _ q)
              · exact .inl (hwr b q)
            · exact old b (List.mem_append_right _ q)
      · exact h.elim
    · exact h.elim
  · exact h.elim
theorem t_compV {elt tg iter : Expr} {ifs : List Expr} {scope : Scope} {own : List (Str × Nat)} {pos : Pos} {k : SK} {r : Nat} {cs : List E} {it : Tg} {ielt : E} (hc : X.calm = true) (hN : X.N.Nodup)
    (hi : PI X tg iter (TIrV X.K k r)) (ok : BlkOk X.N X.env.scope scope own)
    (hg : ∀ (s : Shared) (H : Hp) (C' : Addr) (cl : List (Str × Addr)) (fp : List Addr), PG (X.blk s H scope (compEnvC scope cl C' X.env) fp) tg (TGt X.K (own.map (·.2)) it)) (ht : ∀ (s : Shared) (H : Hp) (C' : Addr) (cl : List (Str × Addr)) (fp : List Addr), PTs (X.blk s H scope (compEnvC scope cl C' X.env) fp) ifs (TTs X.K WN C cs))
    (he : ∀ (s : Shared) (H : Hp) (C' : Addr) (cl : List (Str × Addr)) (fp : List Addr), PE (X.blk s H scope (compEnvC scope cl C' X.env) fp) elt (T X.K WN C ielt)) (hs : ∀ x, foldedSetIterable iter X.env x = pure x) :
    PE X (.ListComp elt [⟨tg, iter, ifs, 0⟩] scope pos) (T X.K W C (.compV k r it cs (own.map (·.2)) ielt)) :=
  PE.weak (pe_lc hc hN hi ok hg ht he hs) fun s H Q h => lc_readV h
theorem st_setLcV {i : Nat} {y : Str} {py : Pos} {elt tg iter : Expr} {ifs : List Expr} {scope : Scope} {own : List (Str × Nat)} {pos spos : Pos} {k : SK} {r : Nat} {cs : List E} {it : Tg} {ielt : E} (hc : X.calm = true) (hN : X.N.Nodup) (hy : X.N[i]? = some y) (hyl : X.env.scope.names.lookup y = some .local) (hA : i ∈ A)
    (hsw : swapsWith (.ListComp elt [⟨tg, iter, ifs, 0⟩] scope pos) (some (.Name y py)) spos.line X.env = pure true) (hi : PI X tg iter (TIrV X.K k r)) (ok : BlkOk X.N X.env.scope scope own)
    (hg : ∀ (s : Shared) (H : Hp) (C' : Addr) (cl : List (Str × Addr)) (fp : List Addr), PG (X.blk s H scope (compEnvC scope cl C' X.env) fp) tg (TGt X.K (own.map (·.2)) it)) (ht : ∀ (s : Shared) (H : Hp) (C' : Addr) (cl : List (Str × Addr)) (fp : List Addr), PTs (X.blk s H scope (compEnvC scope cl C' X.env) fp) ifs (TTs X.K WN C cs))
    (he : ∀ (s : Shared) (H : Hp) (C' : Addr) (cl : List (Str × Addr)) (fp : List Addr), PE (X.blk s H scope (compEnvC scope cl C' X.env) fp) elt (T X.K WN C ielt)) (hs : ∀ x, foldedSetIterable iter X.env x = pure x) :
    PS X (.Assign [.Name y py] (.ListComp elt [⟨tg, iter, ifs, 0⟩] scope pos) spos) (TSt X.K W C fu A (.set i (.compV k r it cs (own.map (·.2)) ielt))) :=
  PS.weak (ps_setLc hc hN hy hyl hsw hi ok hg ht he hs) fun D s H ⟨σ, w, R, g, h⟩ => lc_readV (set_end hA g h)
theorem ti_seqV {tg : Expr} {x : Str} {r : Nat} {p : Pos} (hN : X.N[r]? = some x) (hv : Vis X.env.scope x) (hd : (x == ("__debug__" : Str)) = false) (hcd : (x == ("__classdict__" : Str)) = false) : PI X tg (.Name x p) (TIrV X.K .seq r) :=
  PI.weak (pi_seq (pe_var hN hv hd hcd)) fun s H Rr ⟨v, y, its, O, P, es, ei, hV, k⟩ => by
    refine ⟨v, es, ?_⟩
    have ei2 : (seqD y).map Its.l = some its := ei
    rcases hV with ⟨a, vs, ds, rfl, rfl, rfl, ha, rds⟩ | ⟨rfl, rd⟩
    · cases ei2
      exact ⟨a, rfl, .inl ⟨⟨vs, .inl (.inl ha)⟩, k _ _ walk_lV ⟨ha, rds⟩⟩⟩
    · have rx' := rd
      cases y with
      | tup ds =>
        cases ei2
        rw [RepD] at rd
        obtain ⟨a, vs, rfl, q, rs⟩ := rd
        exact ⟨a, rfl, .inr ⟨⟨vs, q⟩, k _ _ walk_t.toP rx'⟩⟩
      | lst ds =>
        cases ei2
        rw [RepD] at rd
        obtain ⟨a, vs, rfl, n, q, rs⟩ := rd
        exact ⟨a, rfl, .inl ⟨⟨vs, .inl (.inl q)⟩, k _ _ (walk_l (.inl rfl)).toP rx'⟩⟩
      | scr ds =>
        cases ei2
        rw [RepD] at rd
        obtain ⟨a, vs, rfl, q, rs⟩ := rd
        exact ⟨a, rfl, .inl ⟨⟨vs, q.sq⟩, k _ _ (walk_l (.inr rfl)).toP rx'⟩⟩
      | _ => cases ei2
theorem ti_enumV {elts : List Expr} {kk : Nat} {tpos : Pos} {x : Str} {r : Nat} {p pn pos : Pos} (hg : Gl X "enumerate") (hm : X.mg "enumerate" = none) (hN : X.N[r]? = some x) (hv : Vis X.env.scope x) (hd : (x == ("__debug__" : Str)) = false) (hcd : (x == ("__classdict__" : Str)) = false) :
    PI X (.Tuple elts kk tpos) (.Call (.Name "enumerate" p) [.Name x pn] [] pos) (TIrV X.K .enum r) :=
  PI.weak (pi_enumA hg hm (pa_cons (pe_var hN hv hd hcd) pa_nil rfl) rfl) fun s H Rr ⟨v, y, its, O, P, es, ei, hV, k⟩ => by
    refine ⟨v, es, ?_⟩
    have ei2 : (seqD y).map (fun xs => Its.l (enumD 0 xs)) = some its := ei
    rcases hV with ⟨a, vs, ds, rfl, rfl, rfl, ha, rds⟩ | ⟨rfl, rd⟩
    · cases ei2
      exact ⟨a, vs, rfl, .inl ⟨.inl (.inl ha), k _ _ walk_enV ⟨ha, rds⟩⟩⟩
    · have viaL : ∀ ds, lstD y = some ds → Its.l (enumD 0 ds) = its → ∃ a xs, ([v] : List V) = [.ref a] ∧ ((SqL X.K H a xs ∧ Rr (Ite X.K a) H) ∨ (SqT X.K H a xs ∧ Rr (IteT X.K a) H)) := fun ds e1 ei3 => by
        subst ei3
        obtain ⟨a, vs, rfl, sq, _⟩ := lstD_sq e1 rd
        exact ⟨a, vs, rfl, .inl ⟨sq, k _ _ (walk_en e1).toP rd⟩⟩
      cases y with
      | lst ds => exact viaL ds rfl (Option.some.inj ei2)
      | scr ds => exact viaL ds rfl (Option.some.inj ei2)
      | tup ds =>
        have ei3 : Its.l (enumD 0 ds) = its := Option.some.inj ei2
        subst ei3
        have q0 := rd
        rw [RepD] at q0
        obtain ⟨a, vs, rfl, sq, _⟩ := q0
        exact ⟨a, vs, rfl, .inr ⟨sq, k _ _ walk_enT.toP rd⟩⟩
      | _ => cases ei2
end
end R

/-! A15: from a def's text to its IR: expressions. -/
namespace R
open PySem PySem.Spec L2
open PyProof.Rows hiding St
/-- what is known where a text is turned -/
structure CC where
  N : List Str
  sc : Scope
  ds : List Str
  np : Nat
  blt : List Str
  cls : List (Str × List Str)
  ext : List (Str × List (Str × Bool))
  ks : List (Str × Dat)
  tabs : List (Str × List (Str × Int))
  kw : List (Str × List Str)
  isx : List (Str × List (Str × Bool))
  /-- names of this def that hold dicts -/
  dn : List Str
  /-- .. that comprehensions walk and leave as they are -/
  vn : List Str
  /-- names whose cells are the frame's own -/
  fn : Str → Bool
def idx? (x : Str) : List Str → Option Nat
  | [] => none
  | y :: r => if x = y then some 0 else (idx? x r).map (· + 1)
theorem idx_ok {x : Str} : ∀ {l : List Str} {i : Nat}, idx? x l = some i → l[i]? = some x
  | [], _, h => by cases h
  | y :: r, i, h => by
    rw [idx?] at h
    by_cases e : x = y
    · rw [if_pos e] at h
      cases h
      rw [e]
      rfl
    · rw [if_neg e] at h
      cases e2 : idx? x r with
      | none => rw [e2] at h; cases h
      | some j =>
        rw [e2] at h
        cases h
        simpa using idx_ok e2
def mapO {α β : Type} (f : α → Option β) : List α → Option (List β)
  | [] => some []
  | x :: r => (f x).bind fun y => (mapO f r).map (y :: ·)
def visB (sc : Scope) (x : Str) : Bool := match sc.names.lookup x with
  | some .local => true
  | some .cell => true
  | some .free => true
  | _ => false
def locB (sc : Scope) (x : Str) : Bool := match sc.names.lookup x with
  | some .local => true
  | _ => false
def gloB (sc : Scope) (x : Str) : Bool := match sc.names.lookup x with
  | some .globalImplicit => true
  | _ => false
def CC.cel (c : CC) (x : Str) : Bool := match c.sc.names.lookup x with
  | some .cell => c.fn x
  | _ => false
/-- a name that may be stored to -/
def CC.sto (c : CC) (x : Str) : Bool := locB c.sc x || c.cel x
theorem visB_ok {sc : Scope} {x : Str} (h : visB sc x = true) : Vis sc x := by
  unfold visB at h
  split at h
  · exact .inl (by assumption)
  · exact .inr (.inl (by assumption))
  · exact .inr (.inr (by assumption))
  · cases h
theorem locB_ok {sc : Scope} {x : Str} (h : locB sc x = true) : sc.names.lookup x = some .local := by
  unfold locB at h
  split at h
  · assumption
  · cases h
theorem gloB_ok {sc : Scope} {x : Str} (h : gloB sc x = true) : sc.names.lookup x = some .globalImplicit := by
  unfold gloB at h
  split at h
  · assumption
  · cases h
def plainNm (x : Str) : Bool := !(x == ("__debug__" : Str)) && !(x == ("__classdict__" : Str)) && !(x == ("__name__" : Str))
theorem plainNm_ok {x : Str} (h : plainNm x = true) : (x == ("__debug__" : Str)) = false ∧ (x == ("__classdict__" : Str)) = false ∧ x ≠ "__name__" := by
  unfold plainNm at h
  simp only [Bool.and_eq_true, Bool.not_eq_true'] at h
  exact ⟨h.1.1, h.1.2, by simpa using h.2⟩
def CC.slot (c : CC) (x : Str) : Option Nat := if visB c.sc x && plainNm x then idx? x c.N else none
/-- a name of the frame -/
structure NmOk (X : Cx) (x : Str) (r : Nat) : Prop where
  at_ : X.N[r]? = some x
  vis : Vis X.env.scope x
  nd : (x == ("__debug__" : Str)) = false
  ncd : (x == ("__classdict__" : Str)) = false
def DefOk (C : CF) (X : Cx) (kw : List (Str × List Str)) (x : Str) (f : Nat) : Prop := ∃ (fa : Addr) (fd : FuncData) (ps : List Str) (j : Nat), X.mg x = some (.ref fa) ∧ PySem.W.keepIn X.K (.ref fa) = true ∧ Binds X.K fd ps [] ∧ FnOk X.prog X.w X.K X.mg X.base (L2.CX X.prog X.w) j fa fd ps (spOf X.K C f ps.length) ∧ Room j X.A ∧
    (∀ as, C f as ≠ .bad → as.length = ps.length) ∧ ∀ q ∈ kw, q.1 = x → q.2 = ps ∧ ∀ (s : Shared) (us : List Value), us.length = ps.length → BindsTo s fd ⟨[], ps.zip us⟩ (ps.zip us)
/-- the state of things where a def's body runs -/
structure XOk (C : CF) (c : CC) (X : Cx) : Prop where
  N : X.N = c.N
  nd : c.N.Nodup
  calm : X.calm = true
  sc : X.env.scope = c.sc
  room : ∃ n, Room n X.A
  defs : ∀ x i, c.ds[i]? = some x → DefOk C X c.kw x i
  blt : ∀ x ∈ c.blt, X.mg x = none
  cls : ∀ p ∈ c.cls, ExcK X p.1 p.2 ∧ XfC X.K (He.ga X.K p.1)
  ext : ∀ p ∈ c.ext, (∀ q ∈ p.2, PySem.W.exmOne X.K (.ref (He.ga X.K q.1)) (.ref (He.ga X.K p.1)) = some q.2) ∧ X.mg p.1 = some (.ref (He.ga X.K p.1))
  fn : ∀ x, c.fn x = true → X.fn x = true
  ks : ∀ p ∈ c.ks, ∃ v u, X.mg p.1 = some u ∧ RelV v u ∧ ∀ H O, RepD X.K H O p.2 v
  tabs : ∀ p ∈ c.tabs, TabOk X p.1 p.2
  isx : ∀ p ∈ c.isx, X.mg p.1 = some (.ref (He.ga X.K p.1)) ∧ ∀ q ∈ p.2, isxB X.K (He.ga X.K q.1) = true ∧ PySem.W.kitOne X.K (.ref (He.ga X.K q.1)) (.ref (He.ga X.K p.1)) = some q.2
section
variable {C : CF} {c : CC} {X : Cx} {W : WX}
theorem XOk.slot (o : XOk C c X) {x : Str} {r : Nat} (h : c.slot x = some r) : NmOk X x r := by
  unfold CC.slot at h
  split at h
  · rename_i q
    rw [Bool.and_eq_true] at q
    obtain ⟨d1, d2, _⟩ := plainNm_ok q.2
    exact ⟨by rw [o.N]; exact idx_ok h, by rw [o.sc]; exact visB_ok q.1, d1, d2⟩
  · cases h
theorem cel_ok {x : Str} (h : c.cel x = true) : c.sc.names.lookup x = some .cell ∧ c.fn x = true := by
  unfold CC.cel at h
  split at h
  · exact ⟨by assumption, h⟩
  · cases h
theorem XOk.sto (o : XOk C c X) {x : Str} (h : c.sto x = true) : Loc X.env.scope x ∧ (X.fn x = true ∨ X.env.scope.names.lookup x = some .local) := by
  unfold CC.sto at h
  rw [o.sc]
  rcases (Bool.or_eq_true _ _).mp h with q | q
  · exact ⟨.inl (locB_ok q), .inr (locB_ok q)⟩
  · exact ⟨.inr (cel_ok q).1, .inl (o.fn x (cel_ok q).2)⟩
theorem XOk.gl (o : XOk C c X) {x : Str} (h : gloB c.sc x = true) : Gl X x := by
  show X.env.scope.names.lookup x = some .globalImplicit
  rw [o.sc]
  exact gloB_ok h
end
/-! ### the pieces -/
def constD : Const → Option Dat
  | .none => some .non
  | .bool b => some (.bl b)
  | .int i => some (.int i)
  | .str s => some (.str s)
  | _ => none
def bopOf : Operator → Option Bop
  | .Add => some .add | .Sub => some .sub | .Mult => some .mul | .FloorDiv => some .fdiv | .Mod => some .mod | .Pow => some .pow | .LShift => some .shl
  | _ => none
theorem bopOf_ok {o : Operator} {b : Bop} (h : bopOf o = some b) : o = bopA b := by
  cases o <;> simp [bopOf] at h <;> subst h <;> rfl
def copOf : CmpOp → Cop
  | .Lt => .lt | .LtE => .le | .Gt => .gt | .GtE => .ge | .Eq => .eq | .NotEq => .ne | .Is => .is | .IsNot => .isnot | .In => .mem | .NotIn => .notmem
theorem copOf_ok (o : CmpOp) : copA (copOf o) = o := by cases o <;> rfl
def biTab : List (Str × Bi) := [("len", .len), ("abs", .abs), ("int", .int), ("str", .str), ("tuple", .tuple), ("list", .list), ("sorted", .sorted), ("sum", .sum), ("min", .min), ("max", .max), ("any", .any), ("all", .all)]
def tyTab : List (Str × Ty) := [("tuple", .tuple), ("list", .list), ("int", .int), ("bool", .bool), ("str", .str), ("dict", .dict)]
theorem biTab_ok : ∀ p ∈ biTab, bootBuiltins p.1 = some (biV p.2) := by
  intro p hp
  simp only [biTab, List.mem_cons, List.not_mem_nil, or_false] at hp
  rcases hp with rfl | rfl | rfl | rfl | rfl | rfl | rfl | rfl | rfl | rfl | rfl | rfl <;> rfl
theorem tyTab_ok : ∀ p ∈ tyTab, bootBuiltins p.1 = some (.type (tyName p.2)) := by
  intro p hp
  simp only [tyTab, List.mem_cons, List.not_mem_nil, or_false] at hp
  rcases hp with rfl | rfl | rfl | rfl | rfl | rfl <;> rfl
def notSet : Expr → Bool
  | .Set _ _ _ => false
  | _ => true
theorem notSet_ok {b : Expr} (h : notSet b = true) : ∀ es k p, b ≠ .Set es k p := by
  intro es k p e
  subst e
  cases h
theorem notSet_fold {b : Expr} (h : notSet b = true) (env : Env) : ∀ x, foldedSetIterable b env x = pure x := by
  intro x
  unfold foldedSetIterable
  split
  · cases h
  · rfl
/-- a global name that is a builtin -/
def CC.bl (c : CC) (x : Str) : Bool := gloB c.sc x && decide (x ∈ c.blt) && plainNm x
theorem XOk.bl {C : CF} {c : CC} {X : Cx} (o : XOk C c X) {x : Str} {u : Value} (h : c.bl x = true) (hb : bootBuiltins x = some u) : BlOk X x u := by
  unfold CC.bl at h
  simp only [Bool.and_eq_true, decide_eq_true_eq] at h
  obtain ⟨d1, _, d3⟩ := plainNm_ok h.2
  exact ⟨o.gl h.1.1, o.blt x h.1.2, hb, d3, d1⟩
def boolE : BoolOp → E → E → E
  | .And => .and
  | .Or => .or
def cBo (f : Expr → Option E) (op : BoolOp) : List Expr → Option E
  | [] => none
  | [a] => f a
  | a :: b :: r => (f a).bind fun ia => (cBo f op (b :: r)).map fun ib => boolE op ia ib
def cV (c : CC) (f : Expr → Option E) : Expr → Option E
  | .Name x p => (match c.slot x with
    | some r => some (.vw r)
    | none => f (.Name x p))
  | e => f e
def cO (f : Expr → Option E) : Option Expr → Option (Option E)
  | none => some none
  | some e => (f e).map some
/-- names written as arguments -/
def nameOf : Expr → Option Str
  | .Name x _ => some x
  | _ => none
def cntN (x : Str) : List Expr → Nat
  | [] => 0
  | e :: r => (if nameOf e = some x then 1 else 0) + cntN x r
def cLd (c : CC) (f : Expr → Option E) (all : List Expr) : List Expr → Option (List E)
  | [] => some []
  | e :: r => (match (nameOf e).bind fun x => if cntN x all = 1 then c.slot x else none with
    | some k => some (E.lend k)
    | none => (f e).bind fun i => if (lendOf i).isNone && notStar e then some i else none).bind fun (i : E) => (cLd c f all r).map (i :: ·)
def cTys (c : CC) : List Expr → Option (List Ty)
  | [] => some []
  | .Name x _ :: r => if c.bl x then (tyTab.lookup x).bind fun t => (cTys c r).map (t :: ·) else none
  | _ => none
def isTupE : Expr → Bool
  | .Tuple _ _ _ => true
  | _ => false
/-- a loop's source; tt: the target is a tuple -/
def cSrc (c : CC) (f : Expr → Option E) (tt : Bool) : Expr → Option (SK × List E)
  | .Call (.Name x p) args [] pos =>
    if c.bl x && args.all notStar && decide (x = "range") then (match args with
      | [a] => (f a).map fun i => (.range, [i])
      | [a, b] => (f a).bind fun i => (f b).map fun j => (.range, [i, j])
      | [a, b, d] => (f a).bind fun i => (f b).bind fun j => (f d).map fun k => (.range, [i, j, k])
      | _ => none)
    else if c.bl x && args.all notStar && decide (x = "enumerate") then (match args with
      | [a] => if tt then (f a).map fun i => (.enum, [i]) else none
      | _ => none)
    else if c.bl x && args.all notStar && decide (x = "zip") then (match args with
      | [a, b] => if tt then (f a).bind fun i => (f b).map fun j => (.zip, [i, j]) else none
      | _ => none)
    else if c.bl x && args.all notStar && decide (x = "reversed") then (match args with
      | [a] => (f a).map fun i => (.rev, [i])
      | _ => none)
    else (f (.Call (.Name x p) args [] pos)).map fun i => (.seq, [i])
  | e => if notSet e then (f e).map fun i => (.seq, [i]) else none
mutual
/-- a target: names that are locals, in these slots -/
def cTg (c : CC) (A : List Nat) : Expr → Option Tg
  | .Name x _ => if c.sto x then (idx? x c.N).bind fun i => if i ∈ A then some (.n i) else none else none
  | .Tuple es _ _ => (cTgs c A es).map .t
  | _ => none
def cTgs (c : CC) (A : List Nat) : List Expr → Option (List Tg)
  | [] => some []
  | e :: r => (cTg c A e).bind fun t => (cTgs c A r).map (t :: ·)
end
mutual
def tgNames : Expr → List Str
  | .Name x _ => [x]
  | .Tuple es _ _ => tgNamess es
  | _ => []
def tgNamess : List Expr → List Str
  | [] => []
  | e :: r => tgNames e ++ tgNamess r
end
def ownOf (c : CC) (tg : Expr) : Option (List (Str × Nat)) := mapO (fun x => (idx? x c.N).map fun i => (x, i)) (tgNames tg)
def biCall (c : CC) (f : Expr → Option E) (x : Str) (args : List Expr) : Option E :=
  if c.bl x && args.all notStar then
    if x = "isinstance" then (match args with
      | [a, .Name t p] => (cTys c [.Name t p]).bind fun ts => (cV c f a).map fun i => .isi i ts
      | [a, .Tuple es _ _] => (cTys c es).bind fun ts => if ts.length ≤ 20 then (cV c f a).map fun i => .isi i ts else none
      | _ => none)
    else (match args with
      | [a] => (biTab.lookup x).bind fun b => if oneArg b || (decide (x = "sorted") || decide (x = "min")) then (cV c f a).map fun i => .bi b [i] else none
      | [a, b] => if x = "min" then (f a).bind fun i => (f b).map fun j => .bi .min2 [i, j] else if x = "max" then (f a).bind fun i => (f b).map fun j => .bi .max2 [i, j] else none
      | _ => none)
  else none
def methC (c : CC) (f : Expr → Option E) (x m : Str) (ap cp : Pos) (args : List Expr) : Option E :=
  (c.slot x).bind fun r => if ap.endLine == cp.line && args.all notStar then (match args with
    | [] => if m = "pop" then some (.meth .pop r []) else none
    | [a] => if m = "append" then (f a).map fun i => .meth .append r [i] else if m = "pop" then (f a).map fun i => .meth .popAt r [i] else if m = "extend" then (f a).map fun i => .meth .extend r [i] else none
    | _ => none) else none
def subC (c : CC) (f : Expr → Option E) (b i : Expr) : Option E :=
  match i with
  | .Slice lo hi none _ => (cO f lo).bind fun l => (cO f hi).bind fun h => (match (nameOf b).bind c.slot with
    | some r => some (.slv r l h)
    | none => (f b).map fun ib => .sl ib l h)
  | .Slice none none (some (.UnaryOp .USub (.Constant (.int 1) _ _) _)) _ => (cV c f b).map .revs
  | .Slice _ _ _ _ => none
  | i => if isSl i then none else (match (nameOf b).bind c.slot with
    | some r => (f i).map fun ii => .idxv r ii
    | none => (f b).bind fun ib => (f i).map fun ii => .idx ib ii)
def CC.blk (c : CC) (scope : Scope) : CC := { c with sc := relS scope c.sc, fn := fun x => scope.names.lookup x == some .cell }
def compC (fE fT : CC → Expr → Option E) (c : CC) (elt tg iter : Expr) (ifs : List Expr) (scope : Scope) : Option E :=
  (ownOf c tg).bind fun (own : List (Str × Nat)) => if blkC c.N c.sc scope own then (cSrc c (fE c) (isTupE tg) iter).bind fun src =>
    (cTg (c.blk scope) (own.map (·.2)) tg).bind fun it => (match ifs with
      | [] => some []
      | [t] => (fT (c.blk scope) t).map fun i => [i]
      | _ => none).bind fun cs => (fE (c.blk scope) elt).map fun ie => .comp src.1 src.2 it cs (own.map Prod.snd) ie
  else none
/-- .. over a name that is left as it is -/
def cSrcV (c : CC) (tt : Bool) : Expr → Option (SK × Nat)
  | .Name x _ => if decide (x ∈ c.vn) then (c.slot x).map fun r => (.seq, r) else none
  | .Call (.Name f _) [.Name x _] [] _ => if decide (f = "enumerate") && (c.bl f && (tt && decide (x ∈ c.vn))) then (c.slot x).map fun r => (.enum, r) else none
  | _ => none
def compVC (fE fT : CC → Expr → Option E) (c : CC) (elt tg iter : Expr) (ifs : List Expr) (scope : Scope) : Option E :=
  (ownOf c tg).bind fun (own : List (Str × Nat)) => if blkC c.N c.sc scope own then (cSrcV c (isTupE tg) iter).bind fun src =>
    (cTg (c.blk scope) (own.map (·.2)) tg).bind fun it => (match ifs with
      | [] => some []
      | [t] => (fT (c.blk scope) t).map fun i => [i]
      | _ => none).bind fun cs => (fE (c.blk scope) elt).map fun ie => .compV src.1 src.2 it cs (own.map Prod.snd) ie
  else none
def compX (fE fT : CC → Expr → Option E) (c : CC) (elt tg iter : Expr) (ifs : List Expr) (scope : Scope) : Option E :=
  match compVC fE fT c elt tg iter ifs scope with
  | some i => some i
  | none => compC fE fT c elt tg iter ifs scope
/-- a dict of the top -/
def CC.tab (c : CC) (b : Expr) : Option (List (Str × Int)) := match b with
  | .Name x _ => if gloB c.sc x && plainNm x then c.tabs.lookup x else none
  | _ => none
/-- a name that holds a dict -/
def CC.dic (c : CC) (b : Expr) : Option Nat := match b with
  | .Name x _ => if decide (x ∈ c.dn) then c.slot x else none
  | _ => none
def inOp : CmpOp → Option Bool
  | .In => some false
  | .NotIn => some true
  | _ => none
def cmp1 (c : CC) (f : Expr → Option E) (a : Expr) (op : CmpOp) (b : Expr) : Option E :=
  match c.dic b, inOp op with
  | some r, some no => (f a).map fun ia => .din no ia r
  | _, _ => match c.tab b, inOp op with
  | some kvs, some no => (f a).map fun ia => .kin no ia kvs
  | _, _ => if notSet b then (f a).bind fun ia => (cV c f b).map fun ib => .cmp (copOf op) ia ib else none
def cmp3 (c : CC) (f : Expr → Option E) (a : Expr) (op op' op2 : CmpOp) (b d g : Expr) : Option E :=
  if notSet g then (f a).bind fun ia => (f b).bind fun ib => (f d).bind fun id => (cV c f g).map fun ig => .chain3 (copOf op) (copOf op') (copOf op2) ia ib id ig else none
def subT (c : CC) (f : Expr → Option E) (b i : Expr) : Option E :=
  match c.dic b with
  | some r => if isSl i then none else (f i).map fun ii => .dget r ii
  | none => match c.tab b with
  | some kvs => if isSl i then none else (f i).map fun ii => .kat kvs ii
  | none => subC c f b i
/-- list(range(..)), tuple(range(..)) -/
def rngC (c : CC) (f : Expr → Option E) (x : Str) (args : List Expr) : Option E := match args with
  | [.Call (.Name r _) [a] [] _] => if decide (r = "range") && (c.bl r && (c.bl x && ((decide (x = "list") || decide (x = "tuple")) && notStar a))) then (f a).map fun i => .rng (decide (x = "tuple")) [i] else none
  | [.Call (.Name r _) [a, b] [] _] => if decide (r = "range") && (c.bl r && (c.bl x && ((decide (x = "list") || decide (x = "tuple")) && (notStar a && notStar b)))) then (f a).bind fun i => (f b).map fun j => .rng (decide (x = "tuple")) [i, j] else none
  | _ => none
def kwC (c : CC) (f : Expr → Option E) (x : Str) (kws : List Keyword) : Option E :=
  if gloB c.sc x && plainNm x then (match idx? x c.ds, c.kw.lookup x with
    | some i, some ns => if kws.map (·.arg) = ns.map some then (cLd c f (kws.map (·.value)) (kws.map (·.value))).map fun is => .call i is else none
    | _, _ => none) else none
def stepE (fE fT : CC → Expr → Option E) (c : CC) (e : Expr) : Option E :=
  match e with
  | .Constant k _ _ => (constD k).map .lit
  | .Name x _ => (match c.slot x with
      | some r => some (.get r)
      | none => if gloB c.sc x && plainNm x then (c.ks.lookup x).map .lit else none)
  | .Tuple es _ _ => if es.all notStar then (mapO (fE c) es).map .tup else none
  | .List es _ => if es.all notStar then (mapO (fE c) es).map .lst else none
  | .BinOp a op b _ => (bopOf op).bind fun bo => (fE c a).bind fun ia => (fE c b).map fun ib => .bin bo ia ib
  | .UnaryOp .USub a _ => (fE c a).map .neg
  | .UnaryOp .Not a _ => (fE c a).map .not
  | .BoolOp op es _ => cBo (fE c) op es
  | .IfExp t a b _ => (fT c t).bind fun it => (fE c a).bind fun ia => (fE c b).map fun ib => .ite it ia ib
  | .Compare a [op] [b] _ => cmp1 c (fE c) a op b
  | .Compare a [op, op', op2] [b, d, g] _ => cmp3 c (fE c) a op op' op2 b d g
  | .Compare a [op, op'] [b, d] _ => if notSet d then (fE c a).bind fun ia => (fE c b).bind fun ib => (cV c (fE c) d).map fun id => .chain (copOf op) (copOf op') ia ib id else none
  | .Subscript b i _ => subT c (fE c) b i
  | .ListComp elt [⟨tg, iter, ifs, 0⟩] scope _ => compX fE fT c elt tg iter ifs scope
  | .Call (.Name x _) args [] _ => if gloB c.sc x && plainNm x then (match idx? x c.ds with
      | some i => (cLd c (fE c) args args).map fun is => .call i is
      | none => (match rngC c (fE c) x args with
        | some i => some i
        | none => biCall c (fE c) x args)) else none
  | .Call (.Name x _) [] (k :: kws) _ => kwC c (fE c) x (k :: kws)
  | .Call (.Attribute (.Name x _) m ap) args [] cp => methC c (fE c) x m ap cp args
  | .Dict [] [] _ => some (.dnew false)
  | _ => none
/-- a test -/
def stepT (fE fT : CC → Expr → Option E) (c : CC) (e : Expr) : Option E :=
  match e with
  | .UnaryOp .Not a _ => (fT c a).map .not
  | .BoolOp op es _ => cBo (fT c) op es
  | .Compare a [op] [b] _ => cmp1 c (fE c) a op b
  | .Compare a [op, op', op2] [b, d, g] _ => cmp3 c (fE c) a op op' op2 b d g
  | .Compare a [op, op'] [b, d] _ => if notSet d then (fE c a).bind fun ia => (fE c b).bind fun ib => (cV c (fE c) d).map fun id => .chain (copOf op) (copOf op') ia ib id else none
  | e => if plainT e then cV c (fE c) e else none
def cET : Nat → (CC → Expr → Option E) × (CC → Expr → Option E)
  | 0 => (fun _ _ => none, fun _ _ => none)
  | n + 1 => (stepE (cET n).1 (cET n).2, stepT (cET n).1 (cET n).2)
/-! ### statements -/
def notComp : Expr → Bool
  | .ListComp _ _ _ _ => false
  | .SetComp _ _ _ _ => false
  | .DictComp _ _ _ _ _ => false
  | _ => true
def isFun (sc : Scope) : Bool := match sc.kind with
  | .function => true
  | _ => false
/-- a value that is returned: the frame's own things are handed out -/
def cRet (c : CC) (f : Expr → Option E) : Expr → Option E
  | .Name x p => (match c.slot x with
    | some r => if c.np ≤ r then some (.mov r) else f (.Name x p)
    | none => f (.Name x p))
  | .Tuple es k p => if es.all (fun e => (nameOf e).isSome) then (mapO (fun e => match (nameOf e).bind fun x => if cntN x es = 1 then c.slot x else none with
      | some r => if c.np ≤ r then some (E.mov r) else f e
      | none => f e) es).map .tup else f (.Tuple es k p)
  | e => f e
/-- x, y = a, b as stored from the right -/
def swOk (c : CC) (xs : List (Str × Pos)) (vs : List Expr) : Bool :=
  isFun c.sc && (xs.all fun q => locB c.sc q.1) && (xs.all fun q => q.2.line == ((xs.head?.map (·.2.line)).getD 0)) && decide (xs.map (·.1)).Nodup && vs.all notStar && !(vs.all (foldedForSure 8)) && !(vs.all (constantsAlone 8))
def stepH (f : Expr → Option HE) (nm : Str) (e : Expr) : Option HE :=
  match e with
  | .Constant k _ _ => (constD k).map .lit
  | .Attribute (.Name x _) f _ => if x = nm then some (.fld f) else none
  | .Tuple es _ _ => if es.all notStar && decide (es.length ≤ 1000) then (mapO f es).map .tup else none
  | _ => none
def cH : Nat → CC → Str → Expr → Option HE
  | 0, _, _ => fun _ => none
  | n + 1, c, nm => stepH (cH n c nm) nm
def fldsOf : HE → List Str
  | .lit _ => []
  | .fld f => [f]
  | .tup hs => fldss hs
where fldss : List HE → List Str
  | [] => []
  | h :: r => fldsOf h ++ fldss r
def isSubE : Expr → Bool
  | .Subscript _ _ _ => true
  | _ => false
/-- x, y = a, b where a cell is stored: a tuple, taken apart -/
def parU (c : CC) (A : List Nat) (f : Expr → Option E) (ts vs : List Expr) : Option S :=
  if vs.all notStar then (cTgs c A ts).bind fun us => (mapO f vs).map fun is => .unp (.t us) (.tup is) else none
/-- a guard of a suite: nm the caught one's name -/
def cGs (f : Expr → Option HG) (op : BoolOp) : List Expr → Option HG
  | [] => none
  | [a] => f a
  | a :: b :: r => (f a).bind fun ga => (cGs f op (b :: r)).map fun gb => (match op with
    | .And => HG.and ga gb
    | .Or => HG.or ga gb)
def stepG (c : CC) (f : Expr → Option HG) (nm : Str) (e : Expr) : Option HG :=
  match e with
  | .UnaryOp .Not a _ => (f a).map .not
  | .BoolOp op es _ => cGs f op es
  | .Call (.Name x _) [.Name n _, .Name y _] [] _ => if decide (x = "isinstance") && (c.bl x && (decide (n = nm) && (gloB c.sc y && plainNm y))) then (c.isx.lookup y).map .isx else none
  | _ => none
def cG : Nat → CC → Str → Expr → Option HG
  | 0, _, _ => fun _ => none
  | n + 1, c, nm => stepG c (cG n c nm) nm
/-- a suite -/
def cHs (c : CC) (nm : Str) : List Stmt → Option (List (Option HG × HE))
  | [] => some []
  | [.Return (some e) _] => (cH 20 c nm e).map fun h => [(none, h)]
  | .If t [.Return (some e) _] [] _ :: r => (cG 20 c nm t).bind fun g => (cH 20 c nm e).bind fun h => (cHs c nm r).map fun hs => (some g, h) :: hs
  | _ => none
/-- the raised classes that are caught and whose fields are known -/
def okOf (c : CC) (tb : List (Str × Bool)) (hs : List (Option HG × HE)) : List Str :=
  (tb.filter fun q => q.2 && (match c.cls.lookup q.1 with
    | some ns => hs.all fun h => (fldsOf h.2).all fun f => decide (f ∈ ns)
    | none => false)).map (·.1)
def stepS (fE fT : CC → Expr → Option E) (fB : CC → List Nat → List Stmt → Option (List S)) (c : CC) (A : List Nat) (st : Stmt) : Option S :=
  match st with
  | .Pass _ => some .pass
  | .Break _ => some .brk
  | .Continue _ => some .cont
  | .Return none _ => some (.ret (.lit .non))
  | .Return (some e) _ => (cRet c (fE c) e).map .ret
  | .Expr e _ => if notComp e then (fE c e).map .expr else none
  | .Assign [.Name x p] (.ListComp elt [⟨tg, iter, ifs, 0⟩] scope pos) _ => if isFun c.sc && locB c.sc x && (p.line == pos.line) && !(scope.names.any fun (n, k) => n == x && (k == .local || k == .cell)) then
      (idx? x c.N).bind fun i => if i ∈ A then (compX fE fT c elt tg iter ifs scope).map fun ie => .set i ie else none
    else if c.cel x then (idx? x c.N).bind fun i => if i ∈ A then (fE c (.ListComp elt [⟨tg, iter, ifs, 0⟩] scope pos)).map fun ie => .set i ie else none else none
  | .Assign [.Name x _] e _ => if c.sto x && notComp e then (idx? x c.N).bind fun i => if i ∈ A then (fE c e).map fun ie => .set i ie else none else none
  | .Assign [.Tuple [.Name x px, .Name y py] _ _] (.Tuple [a, b] _ _) _ => if swOk c [(x, px), (y, py)] [a, b] then
      (idx? x c.N).bind fun i => (idx? y c.N).bind fun j => if i ∈ A ∧ j ∈ A then (fE c a).bind fun ia => (fE c b).map fun ib => .par [i, j] [ia, ib] else none
    else if [a, b].all (foldedForSure 8) || (c.cel x || c.cel y) then parU c A (fE c) [.Name x px, .Name y py] [a, b] else none
  | .Assign [.Tuple [.Name x px, .Name y py, .Name z pz] _ _] (.Tuple [a, b, d] _ _) _ => if swOk c [(x, px), (y, py), (z, pz)] [a, b, d] then
      (idx? x c.N).bind fun i => (idx? y c.N).bind fun j => (idx? z c.N).bind fun k => if i ∈ A ∧ j ∈ A ∧ k ∈ A then (fE c a).bind fun ia => (fE c b).bind fun ib => (fE c d).map fun id => .par [i, j, k] [ia, ib, id] else none
    else if [a, b, d].all (foldedForSure 8) || (c.cel x || (c.cel y || c.cel z)) then parU c A (fE c) [.Name x px, .Name y py, .Name z pz] [a, b, d] else none
  | .Assign [.Tuple es k p] e _ => if notComp e && (!(isTupE e) || (es.length != 2 && es.length != 3)) then (cTg c A (.Tuple es k p)).bind fun t => (fE c e).map fun ie => .unp t ie else none
  | .Assign [.Subscript (.Name x _) i _] e _ => if isSl i then none else (c.slot x).bind fun r => (fE c e).bind fun ie => (fE c i).map fun ii => if decide (x ∈ c.dn) then .dput r ii ie else .setix r ii ie
  | .AugAssign (.Name x _) op e _ => if c.sto x then (idx? x c.N).bind fun i => if i ∈ A then (bopOf op).bind fun bo => (match bo with
      | .add => some Bop.add
      | .sub => some Bop.sub
      | _ => none).bind fun bo => (fE c e).map fun ie => .aug i bo ie else none else none
  | .If t a b _ => (fT c t).bind fun it => (fB c A a).bind fun ia => (fB c A b).map fun ib => .ite it ia ib
  | .For tg iter body [] _ => (cSrc c (fE c) (isTupE tg) iter).bind fun src => (cTg c A tg).bind fun it => (fB c A body).map fun ib => .for_ src.1 src.2 it ib
  | .While t body [] _ => (fT c t).bind fun it => (fB c A body).map fun ib => .wh it ib
  | .Raise (some (.Call (.Name x _) (e :: es) [] _)) none _ => if gloB c.sc x && plainNm x && (e :: es).all notStar then (c.cls.lookup x).bind fun ns => if ns.Nodup ∧ ns.length ≤ 900 then (mapO (fE c) (e :: es)).map fun is => .raise x ns is else none else none
  | .AugAssign (.Subscript (.Name x _) i _) op e _ => if isSl i then none else (c.slot x).bind fun r => (bopOf op).bind fun bo => (match bo with
      | .add => some Bop.add
      | .sub => some Bop.sub
      | _ => none).bind fun bo => (fE c e).bind fun ie => (fE c i).map fun ii => .augix r ii bo ie
  | .Try body [.ExceptHandler (some (.Name x _)) (some n) (sb :: su) _] [] [] _ => if gloB c.sc x && plainNm x && locB c.sc n && plainNm n then
      (idx? n c.N).bind fun i => if i ∈ A then (c.ext.lookup x).bind fun tb => (cHs c n (sb :: su)).bind fun hs => (fB c A body).map fun ib => .try_ ib tb i (okOf c tb hs) hs else none else none
  | _ => none
def cB : Nat → CC → List Nat → List Stmt → Option (List S)
  | 0, _, _, _ => none
  | n + 1, c, A, sts => mapO (stepS (cET n).1 (cET n).2 (cB n) c A) sts
end R

/-! A16: sorted. -/
namespace R
open PySem PySem.Spec L2
open PyProof.Rows hiding St
def rSrt (K : PySem.W.Frag) : List V → Hp → VK → Prop := fun xs H Q => ∃ (a : Addr) (us : List V) (ds : List PyData), xs = [.ref a] ∧ (SqL K H a us ∨ SqT K H a us) ∧ DpAll K H us ds ∧ us.length = ds.length ∧ PySem.W.AllAlike ds ∧ PySem.W.Sortable ds ∧ (∀ d ∈ ds, d.depth ≤ 60) ∧
  ∀ p, H p = none → Q (.ref p) (upd H p (.lst (((us.zip ds).mergeSort (PySem.W.dataLe false Prod.snd)).map Prod.fst)))
theorem zip_snd {α β : Type} : ∀ {us : List α} {ds : List β}, us.length = ds.length → (us.zip ds).map Prod.snd = ds := fun {us ds} h => List.map_snd_zip (by omega)
theorem each_zip : ∀ {us : List V} {its : List Value} {ds : List PyData}, Vals us its → us.length = ds.length → PySem.W.EachIs (fun v (b : V × PyData) => RelV b.1 v) its (us.zip ds)
  | _, _, [], .nil, _ => .nil
  | _, _, d :: ds, .cons r rr, h => .cons r (each_zip rr (by simpa using h))
  | _, _, _ :: _, .nil, h => by simp at h
  | _, _, [], .cons _ _, h => by simp at h
theorem vals_each : ∀ {out : List Value} {bs : List (V × PyData)}, PySem.W.EachIs (fun v (b : V × PyData) => RelV b.1 v) out bs → Vals (bs.map Prod.fst) out
  | _, _, .nil => .nil
  | _, _, .cons r rr => .cons r (vals_each rr)
theorem call_srt {X : Cx} {n : Nat} (hr : Room n X.A) : CallR X (.builtin "sorted") (rSrt X.K) := by
  intro pins s σ H xs us Q I r q
  obtain ⟨a, us', ds, ex, hq, hd, hl, al, so, dp, q⟩ := q
  subst ex
  obtain ⟨u, eu, rx⟩ := vals1 r
  subst eu
  cases rx
  have fin : ∀ (its : List Value), Vals us' its → us'.length ≤ sizeLine → (∀ out, out.length = (us'.zip ds).length → PySem.W.EachIs (fun v (b : V × PyData) => RelV b.1 v) out ((us'.zip ds).mergeSort (PySem.W.dataLe false Prod.snd)) → EP X pins σ Q (.ref (s.heap.objs.size + 1)) { s with heap := PyProof.Rows.sortedAll s.heap its (List.toArray out) }) := fun its rv hz out hlo eo => by
    obtain ⟨c, hc⟩ := PyProof.Rows.sortedAll_at s.heap its out.toArray
    have hv := vals_each eo
    refine ⟨.ref (s.heap.objs.size + 1), upd H (s.heap.objs.size + 1) (.lst (((us'.zip ds).mergeSort (PySem.W.dataLe false Prod.snd)).map Prod.fst)), I.laid (t' := s.toks) (fun b u e => PyProof.Rows.sortedAll_old e) (Nat.le_succ _) ?_, rfl, q _ (I.hok.fresh (Nat.le_succ _))⟩
    refine (show ObjOk X.prog X.w _ _ _ (.lst _) from ⟨?_, out, c, hv, hc⟩)
    rw [List.length_map, List.length_mergeSort, List.length_zip]
    omega
  have bound : ∀ b, b ∈ us'.zip ds → X.A.units + 2 + b.2.depth < cLine := fun b hb => by
    have hm : b.2 ∈ ds := by
      rw [← zip_snd hl]
      exact List.mem_map.mpr ⟨b, hb, rfl⟩
    have h1 := dp b.2 hm
    have h2 := hr.units
    omega
  rcases hq with hq | hq
  · obtain ⟨its, rv, p, hz⟩ := I.list hq
    obtain ⟨as, ra⟩ := Dp.readsAll I ds us' its hd rv
    have er : PySem.W.EachIs (fun v (b : V × PyData) => ∃ as, Reads s.heap v b.2 as) its (us'.zip ds) := PySem.W.readsAll_each Prod.snd (by rw [zip_snd hl]; exact ra)
    exact PySem.W.sorted_data (enc := Prod.snd) p.isList (each_zip rv hl) er (by rw [zip_snd hl]; exact al) (by rw [zip_snd hl]; exact so) (by
      rw [List.length_zip]
      omega) bound (fin its rv hz)
  · obtain ⟨its, rv, p, hz⟩ := I.tuple hq
    obtain ⟨as, ra⟩ := Dp.readsAll I ds us' its hd rv
    have er : PySem.W.EachIs (fun v (b : V × PyData) => ∃ as, Reads s.heap v b.2 as) its (us'.zip ds) := PySem.W.readsAll_each Prod.snd (by rw [zip_snd hl]; exact ra)
    exact sortedT (enc := Prod.snd) (show s.heap.IsTuple a its.toArray from p) (each_zip rv hl) er (by rw [zip_snd hl]; exact al) (by rw [zip_snd hl]; exact so) (by
      rw [List.length_zip]
      omega) bound (fin its rv hz)
/-! ### the order: insertion -/
def leD (a b : Dat) : Bool := !PySem.W.dataLt b.py a.py
theorem leD_eq : leD = PySem.W.dataLe false Dat.py := rfl
theorem leD_le : PySem.W.TotalLe leD := by
  rw [leD_eq]
  exact PySem.W.sortLe_total _ _ _
theorem insL_split {x : Dat} : ∀ {l1 l2 : List Dat}, (∀ b ∈ l1, leD x b = false) → (∀ b ∈ l2, leD x b = true) → sortD.insL x (l1 ++ l2) = l1 ++ x :: l2
  | [], [], _, _ => rfl
  | [], y :: r, _, h => by
    have e := h y List.mem_cons_self
    have e' : PySem.W.dataLt y.py x.py = false := by simpa [leD] using e
    rw [List.nil_append, sortD.insL, e', if_neg Bool.false_ne_true]
    rfl
  | y :: r, l2, h1, h2 => by
    have e := h1 y List.mem_cons_self
    have e' : PySem.W.dataLt y.py x.py = true := by simpa [leD] using e
    rw [List.cons_append, sortD.insL, e', if_pos rfl, insL_split (fun b hb => h1 b (List.mem_cons_of_mem _ hb)) h2]
    rfl
theorem sortD_eq : ∀ ds : List Dat, sortD ds = ds.mergeSort leD
  | [] => by simp [sortD]
  | x :: r => by
    obtain ⟨l1, l2, e1, e2, h⟩ := List.mergeSort_cons (le := leD) leD_le.trans (fun a b => by
      rcases leD_le.total a b with q | q <;> simp [q]) x r
    have sd := List.pairwise_mergeSort (le := leD) leD_le.trans (fun a b => by
      rcases leD_le.total a b with q | q <;> simp [q]) (x :: r)
    rw [e1] at sd ⊢
    rw [sortD, sortD_eq r, e2]
    refine insL_split (fun b hb => by simpa using h b hb) fun b hb => ?_
    have := (List.pairwise_append.mp sd).2.1
    exact (List.pairwise_cons.mp this).1 b hb
theorem pys_len : ∀ xs : List Dat, (pys xs).length = xs.length
  | [] => rfl
  | x :: r => by rw [pys, List.length_cons, List.length_cons, pys_len r]
theorem pys_map : ∀ xs : List Dat, pys xs = xs.map Dat.py
  | [] => rfl
  | x :: r => by rw [pys, List.map_cons, pys_map r]
section
variable {K : PySem.W.Frag} {W : WX} {C : CF} {H H1 : Hp} {O : List Addr}
theorem zip_enc {us : List V} {ds : List Dat} : us.zip (ds.map Dat.py) = (us.zip ds).map fun p => (p.1, p.2.py) := by
  rw [List.zip_map_right]
  rfl
theorem sort_fst {us : List V} {ds : List Dat} : ((us.zip (ds.map Dat.py)).mergeSort (PySem.W.dataLe false Prod.snd)).map Prod.fst = ((us.zip ds).mergeSort fun a b => leD a.2 b.2).map Prod.fst := by
  have e := List.map_mergeSort (l := us.zip ds) (f := fun p : V × Dat => (p.1, p.2.py)) (r := fun a b : V × Dat => leD a.2 b.2) (s := PySem.W.dataLe false Prod.snd) fun a _ b _ => rfl
  rw [zip_enc, ← e, List.map_map]
  rfl
theorem sort_snd {us : List V} {ds : List Dat} (h : us.length = ds.length) : ((us.zip ds).mergeSort fun a b => leD a.2 b.2).map Prod.snd = sortD ds := by
  rw [List.map_mergeSort (s := leD) (fun a _ b _ => rfl), zip_snd h, sortD_eq]
theorem RepDs.all : ∀ {ds : List Dat} {us : List V}, RepDs K H O ds us → ∀ p ∈ us.zip ds, RepD K H O p.2 p.1
  | [], us, h, p, hp => by simp at hp
  | d :: ds, us, h, p, hp => by
    rw [RepDs] at h
    obtain ⟨v, r, rfl, h1, h2⟩ := h
    rw [List.zip_cons_cons] at hp
    rcases List.mem_cons.mp hp with q | q
    · rw [q]; exact h1
    · exact RepDs.all h2 p q
theorem RepDs.ofAll : ∀ {ps : List (V × Dat)}, (∀ p ∈ ps, RepD K H O p.2 p.1) → RepDs K H O (ps.map Prod.snd) (ps.map Prod.fst)
  | [], _ => by rw [List.map_nil, List.map_nil, RepDs]
  | p :: ps, h => by
    rw [List.map_cons, List.map_cons, RepDs]
    exact ⟨_, _, rfl, h p List.mem_cons_self, RepDs.ofAll fun q hq => h q (List.mem_cons_of_mem _ hq)⟩
theorem RepDs.sorted {ds : List Dat} {us : List V} (h : RepDs K H O ds us) : RepDs K H O (sortD ds) (((us.zip (ds.map Dat.py)).mergeSort (PySem.W.dataLe false Prod.snd)).map Prod.fst) := by
  rw [sort_fst, ← sort_snd h.length]
  exact RepDs.ofAll fun p hp => h.all p (List.mem_mergeSort.mp hp)
variable {X : Cx}
theorem sortable_ok {xs : List Dat} (h : sortable xs = true) : noDics xs = true ∧ PySem.W.AllAlike (xs.map Dat.py) ∧ PySem.W.Sortable (xs.map Dat.py) ∧ ∀ d ∈ xs.map Dat.py, d.depth ≤ 60 := by
  unfold sortable at h
  simp only [Bool.and_eq_true] at h
  obtain ⟨⟨⟨h1, h2⟩, h3⟩, h4⟩ := h
  refine ⟨h1, fun d hd d' hd' => ?_, ?_, fun d hd => ?_⟩
  · obtain ⟨x, hx, rfl⟩ := List.mem_map.mp hd
    obtain ⟨y, hy, rfl⟩ := List.mem_map.mp hd'
    unfold alikeAllB at h2
    exact List.all_eq_true.mp (List.all_eq_true.mp h2 x hx) y hy
  · rw [Bool.or_eq_true] at h3
    rcases h3 with h3 | h3
    · refine .inl fun d hd => ?_
      obtain ⟨x, hx, rfl⟩ := List.mem_map.mp hd
      have := List.all_eq_true.mp h3 x hx
      unfold isTupC at this
      split at this
      · rename_i y r
        exact ⟨y.py, pys r, by rw [Dat.py, pys]⟩
      · cases this
    · refine .inr fun d hd => ?_
      obtain ⟨x, hx, rfl⟩ := List.mem_map.mp hd
      have := List.all_eq_true.mp h3 x hx
      unfold isFlat at this
      split at this
      · exact ⟨by simp [Dat.py], by simp [Dat.py]⟩
      · exact ⟨by simp [Dat.py], by simp [Dat.py]⟩
      · exact ⟨by simp [Dat.py], by simp [Dat.py]⟩
      · cases this
  · obtain ⟨x, hx, rfl⟩ := List.mem_map.mp hd
    exact of_decide_eq_true (List.all_eq_true.mp h4 x hx)
theorem t_sorted {n : Nat} {a : Expr} {ia : E} {x : Str} {pf pos : Pos} (hr : Room n X.A) (hx : BlOk X x (.builtin "sorted")) (ha : PE X a (TV X.K W C ia)) (hs : notStar a = true) :
    PE X (.Call (.Name x pf) [a] [] pos) (T X.K W C (.bi .sorted [ia])) := by
  refine PE.weak (pe_callB (call_srt hr) hx.gl hx.mg hx.bt (tl_view ha hs) hx.nn hx.nd (star_eq hs _ _) rfl) fun s H Q ⟨σ, w, R, g, hq⟩ => ?_
  rw [evalE, evalEs] at hq
  simp only [evalEs, bind_assoc] at hq
  refine TV.ofW g hq fun p σ1 v H1 fw h1 => ?_
  obtain ⟨z, e, ok⟩ := Out.ofOpt (show Out X.K W H s w R (OkV X.K H s w R Q) (optR (biD .sorted (frzs [p])) σ1) from h1)
  simp only [frzs_cons, frzs_nil] at e
  obtain ⟨w', g', r0, t', rl, rt⟩ := fw
  have key : ∀ (a : Addr) (us : List V) (xs : List Dat), v = .ref a → (SqL X.K H1 a us ∨ SqT X.K H1 a us) → RepDs X.K H1 (w' ++ R) xs us → (if sortable xs then some (dl (sortD xs)) else none) = some z → rSrt X.K [v] H1 Q := fun a us xs ev ha rs e' => by
    subst ev
    by_cases hso : sortable xs = true
    · rw [if_pos hso] at e'
      cases e'
      obtain ⟨nd, al, so, dp⟩ := sortable_ok hso
      refine ⟨a, us, xs.map Dat.py, rfl, ha, by rw [← pys_map]; exact rs.dp _ _ nd, by rw [rs.length, List.length_map], al, so, dp, fun q hq' => ?_⟩
      exact ok.lstD g' t' rs.sorted hq'
    · rw [if_neg hso] at e'
      cases e'
  cases ex : p.frz with
  | lst xs =>
    rw [ex] at e
    obtain ⟨a, us, rfl, ha, rs⟩ := rl xs ex
    exact key a us xs rfl (.inl (.inl (.inl ha))) rs e
  | tup xs =>
    rw [ex] at e
    have rd := rt fun ys q => by rw [ex] at q; cases q
    rw [ex, RepD] at rd
    obtain ⟨a, us, rfl, ha, rs⟩ := rd
    exact key a us xs rfl (.inr ha) rs e
  | _ =>
    rw [ex] at e
    cases e
/-! ### min of tuples -/
mutual
theorem reads_fun {h : Heap} : ∀ {v : Value} {d : PyData} {as : List Addr}, Reads h v d as → ∀ {d' : PyData} {bs : List Addr}, Reads h v d' bs → d = d'
  | _, _, _, .none, _, _, r => by cases r; rfl
  | _, _, _, .bool _, _, _, r => by cases r; rfl
  | _, _, _, .int _ _, _, _, r => by cases r; rfl
  | _, _, _, .str _ _, _, _, r => by cases r; rfl
  | _, _, _, .list e1 e2 e3 ra, _, _, r => by
    cases r with
    | list f1 f2 f3 rb =>
      rw [e1] at f1
      cases f1
      rw [e3] at f3
      cases f3
      rw [readsAll_fun ra rb]
    | tuple f1 f2 f3 rb =>
      rw [e1] at f1
      cases f1
      rw [e2] at f2
      simp at f2
    | dict f1 f2 f3 _ _ =>
      rw [e1] at f1
      cases f1
      rw [e2] at f2
      simp at f2
  | _, _, _, .tuple e1 e2 e3 ra, _, _, r => by
    cases r with
    | list f1 f2 f3 rb =>
      rw [e1] at f1
      cases f1
      rw [e2] at f2
      simp at f2
    | tuple f1 f2 f3 rb =>
      rw [e1] at f1
      cases f1
      rw [e3] at f3
      cases f3
      rw [readsAll_fun ra rb]
    | dict f1 f2 f3 _ _ =>
      rw [e1] at f1
      cases f1
      rw [e2] at f2
      simp at f2
  | _, _, _, .dict (kvs := kvs) e1 e2 e3 ra rb, _, _, r => by
    cases r with
    | list f1 f2 f3 _ =>
      rw [e1] at f1
      cases f1
      rw [e2] at f2
      simp at f2
    | tuple f1 f2 f3 _ =>
      rw [e1] at f1
      cases f1
      rw [e2] at f2
      simp at f2
    | @dict _ _ _ _ kvs' _ _ f1 f2 f3 sa sb =>
      rw [e1] at f1
      cases f1
      rw [e3] at f3
      cases f3
      have h1 := readsAll_fun ra sa
      have h2 := readsAll_fun rb sb
      have : kvs = kvs' := by
        have l := congrArg List.length h1
        rw [List.length_map, List.length_map] at l
        refine List.ext_getElem l fun i hi hj => ?_
        have g1 := congrArg (·[i]?) h1
        have g2 := congrArg (·[i]?) h2
        simp [hi, hj] at g1 g2
        exact Prod.ext g1 g2
      rw [this]
theorem readsAll_fun {h : Heap} : ∀ {vs : List Value} {ds : List PyData} {as : List Addr}, ReadsAll h vs ds as → ∀ {ds' : List PyData} {bs : List Addr}, ReadsAll h vs ds' bs → ds = ds'
  | _, _, _, .nil, _, _, r => by cases r; rfl
  | _, _, _, .cons r1 r2, _, _, r => by
    cases r with
    | cons q1 q2 => rw [reads_fun r1 q1, readsAll_fun r2 q2]
end
theorem readsAll_at {h : Heap} : ∀ {vs : List Value} {ds : List PyData} {as : List Addr}, ReadsAll h vs ds as → ∀ {i : Nat} {v : Value}, vs[i]? = some v → ∃ d bs, ds[i]? = some d ∧ Reads h v d bs
  | _, _, _, .nil, _, _, e => by simp at e
  | _, _, _, .cons r1 r2, 0, _, e => by
    simp at e
    subst e
    exact ⟨_, _, rfl, r1⟩
  | _, _, _, .cons r1 r2, i + 1, _, e => by
    obtain ⟨d, bs, e2, r⟩ := readsAll_at r2 (i := i) (by simpa using e)
    exact ⟨d, bs, by simpa using e2, r⟩
theorem vals_at : ∀ {us : List V} {its : List Value}, Vals us its → ∀ {i : Nat} {v : Value}, its[i]? = some v → ∃ u, us[i]? = some u ∧ RelV u v
  | _, _, .nil, _, _, e => by simp at e
  | _, _, .cons r rr, 0, _, e => by
    simp at e
    subst e
    exact ⟨_, rfl, r⟩
  | _, _, .cons r rr, i + 1, _, e => by
    obtain ⟨u, e2, q⟩ := vals_at rr (i := i) (by simpa using e)
    exact ⟨u, by simpa using e2, q⟩
def rMinD (K : PySem.W.Frag) : List V → Hp → VK → Prop := fun xs H Q => ∃ (a : Addr) (us : List V) (d : PyData) (ds : List PyData), xs = [.ref a] ∧ SqL K H a us ∧ DpAll K H us (d :: ds) ∧ PySem.W.AlikeAll (d :: ds) ∧ PyData.depthAll (d :: ds) ≤ 60 ∧
  ∀ (i : Nat) (v : V), us[i]? = some v → (d :: ds)[i]? = some (PySem.W.minD d ds) → Q v H
theorem call_minD {X : Cx} {n : Nat} (hr : Room n X.A) (hc : X.calm = true) : CallR X (.builtin "min") (rMinD X.K) := by
  intro pins s σ H xs us Q I r q
  obtain ⟨a, us', d, ds, ex, hq, hd, al, dp, q⟩ := q
  subst ex
  obtain ⟨u, eu, rx⟩ := vals1 r
  subst eu
  cases rx
  obtain ⟨its, rv, p, hz⟩ := I.list hq
  obtain ⟨as, ra⟩ := Dp.readsAll I (d :: ds) us' its hd rv
  refine PySem.W.min_list_data (I.ok.hd hc) p.isList ra al (by have := hr.units; omega) fun i v h' tk bs hv rd old => ?_
  have I' := I.kept (t' := tk) old
  obtain ⟨as', ra'⟩ := Dp.readsAll I' (d :: ds) us' its hd rv
  obtain ⟨d', bs', e1, r1⟩ := readsAll_at ra' (by simpa using hv)
  have e2 := reads_fun r1 rd
  subst e2
  obtain ⟨u', e3, r3⟩ := vals_at rv (by simpa using hv)
  exact ⟨u', H, I', r3, q i u' e3 e1⟩
mutual
theorem py_inj : ∀ {a b : Dat}, noDic a = true → noDic b = true → a.py = b.py → a = b
  | .non, b, _, hb, e => by cases b <;> simp_all [Dat.py, noDic]
  | .bl _, b, _, hb, e => by cases b <;> simp_all [Dat.py, noDic]
  | .int _, b, _, hb, e => by cases b <;> simp_all [Dat.py, noDic]
  | .str _, b, _, hb, e => by cases b <;> simp_all [Dat.py, noDic]
  | .tup xs, b, ha, hb, e => by
    cases b with
    | tup ys =>
      rw [noDic] at ha hb
      rw [Dat.py, Dat.py] at e
      injection e with e
      rw [pys_inj ha hb e]
    | _ => simp_all [Dat.py, noDic]
  | .lst xs, b, ha, hb, e => by
    cases b with
    | lst ys =>
      rw [noDic] at ha hb
      rw [Dat.py, Dat.py] at e
      injection e with e
      rw [pys_inj ha hb e]
    | _ => simp_all [Dat.py, noDic]
  | .dic _ _ _, _, h, _, _ => by simp [noDic] at h
  | .set _, _, h, _, _ => by simp [noDic] at h
  | .scr _, _, h, _, _ => by simp [noDic] at h
theorem pys_inj : ∀ {a b : List Dat}, noDics a = true → noDics b = true → pys a = pys b → a = b
  | [], [], _, _, _ => rfl
  | [], _ :: _, _, _, e => by simp [pys] at e
  | _ :: _, [], _, _, e => by simp [pys] at e
  | x :: xs, y :: ys, ha, hb, e => by
    rw [noDics, Bool.and_eq_true] at ha hb
    rw [pys, pys] at e
    injection e with e1 e2
    rw [py_inj ha.1 hb.1 e1, pys_inj ha.2 hb.2 e2]
end
theorem noDics_mem : ∀ {xs : List Dat} {x : Dat}, noDics xs = true → x ∈ xs → noDic x = true
  | [], _, _, h => by simp at h
  | y :: ys, x, hn, h => by
    rw [noDics, Bool.and_eq_true] at hn
    rcases List.mem_cons.mp h with q | q
    · rw [q]; exact hn.1
    · exact noDics_mem hn.2 q
theorem foldl_py : ∀ (r : List Dat) (x : Dat), (r.foldl (fun a y => if PySem.W.dataLt y.py a.py then y else a) x).py = (r.map Dat.py).foldl (fun a y => if PySem.W.dataLt y a = true then y else a) x.py
  | [], x => rfl
  | y :: r, x => by
    rw [List.foldl_cons, List.map_cons, List.foldl_cons, foldl_py r]
    congr 1
    split <;> rfl
theorem foldl_mem {f : Dat → Dat → Bool} : ∀ (r : List Dat) (x : Dat), (r.foldl (fun a y => if f y a then y else a) x) ∈ x :: r
  | [], x => by simp
  | y :: r, x => by
    rw [List.foldl_cons]
    have := foldl_mem (f := f) r (if f y x then y else x)
    rcases List.mem_cons.mp this with q | q
    · rw [q]
      split <;> simp
    · exact List.mem_cons_of_mem _ (List.mem_cons_of_mem _ q)
def rMinU (K : PySem.W.Frag) : List V → Hp → VK → Prop := fun xs H Q => rMin K xs H Q ∨ rMinD K xs H Q
theorem call_minU {X : Cx} {n : Nat} (hr : Room n X.A) (hc : X.calm = true) : CallR X (.builtin "min") (rMinU X.K) := fun pins s σ H xs us Q I r q => q.elim (fun q => cr_min hc pins s σ H xs us Q I r q) fun q => call_minD hr hc pins s σ H xs us Q I r q
theorem depthAll_le : ∀ {ds : List PyData} {k : Nat}, (∀ d ∈ ds, d.depth ≤ k) → PyData.depthAll ds ≤ k
  | [], k, _ => by simp [PyData.depthAll]
  | d :: ds, k, h => by
    have h1 := h d List.mem_cons_self
    have h2 := depthAll_le (ds := ds) (k := k) fun e he => h e (List.mem_cons_of_mem _ he)
    rw [PyData.depthAll]
    omega
theorem t_min {n : Nat} {a : Expr} {ia : E} {x : Str} {pf pos : Pos} (hr : Room n X.A) (hc : X.calm = true) (hx : BlOk X x (.builtin "min")) (ha : PE X a (TV X.K W C ia)) (hs : notStar a = true) :
    PE X (.Call (.Name x pf) [a] [] pos) (T X.K W C (.bi .min [ia])) := by
  refine PE.weak (pe_callB (call_minU hr hc) hx.gl hx.mg hx.bt (tl_view ha hs) hx.nn hx.nd (star_eq hs _ _) rfl) fun s H Q ⟨σ, w, R, g, hq⟩ => ?_
  rw [evalE, evalEs] at hq
  simp only [evalEs, bind_assoc] at hq
  refine TV.ofW g hq fun p σ1 v H1 fw h1 => ?_
  obtain ⟨z, e, ok⟩ := Out.ofOpt (show Out X.K W H s w R (OkV X.K H s w R Q) (optR (biD .min (frzs [p])) σ1) from h1)
  simp only [frzs_cons, frzs_nil] at e
  obtain ⟨w', g', r0, t', rl, rt⟩ := fw
  cases ex : p.frz with
  | lst xs =>
    rw [ex] at e
    obtain ⟨a, us, rfl, ha, rs⟩ := rl xs ex
    have e' : minP xs = some z := e
    unfold minP at e'
    cases e2 : (intsD xs).bind minL with
    | some m0 =>
      rw [e2] at e'
      cases e'
      cases e3 : intsD xs with
      | none => rw [e3] at e2; cases e2
      | some ns =>
        rw [e3] at e2
        have e2' : minL ns = some m0 := e2
        have ev := ints_rep e3 rs
        subst ev
        refine .inl ⟨a, ns, rfl, .of ha, minL_none e2', fun m hm hle => ?_⟩
        have := minL_is hm hle
        rw [e2'] at this
        cases this
        exact ok.data g' t' (by rw [RepD])
    | none =>
      rw [e2] at e'
      cases xs with
      | nil => cases e'
      | cons y ys =>
        have e3 : ((if (sortable (y :: ys) && (y :: ys).all isTupC) = true then some (ys.foldl (fun a y => if PySem.W.dataLt y.py a.py then y else a) y) else none : Option Dat)).map PV.d = some z := e'
        by_cases hso : (sortable (y :: ys) && (y :: ys).all isTupC) = true
        · rw [if_pos hso] at e3
          cases e3
          rw [Bool.and_eq_true] at hso
          obtain ⟨nd, al, so, dp⟩ := sortable_ok hso.1
          refine .inr ⟨a, us, y.py, ys.map Dat.py, rfl, .of ha, ?_, ⟨al, fun d hd => ?_⟩, depthAll_le dp, fun i v hv hd => ?_⟩
          · have := rs.dp _ _ nd
            rwa [pys_map] at this
          · obtain ⟨q, hq, rfl⟩ := List.mem_map.mp (show d ∈ (y :: ys).map Dat.py from hd)
            have := List.all_eq_true.mp hso.2 q hq
            cases q <;> simp_all [isTupC, Dat.py]
          · have hfm := foldl_mem (f := fun y a => PySem.W.dataLt y.py a.py) ys y
            have hpy : (ys.foldl (fun a y => if PySem.W.dataLt y.py a.py then y else a) y).py = PySem.W.minD y.py (ys.map Dat.py) := foldl_py ys y
            generalize ys.foldl (fun a y => if PySem.W.dataLt y.py a.py then y else a) y = m at ok hfm hpy
            have hd' : ((y :: ys)[i]?).map Dat.py = some m.py := by
              rw [hpy, ← hd]
              cases i <;> simp
            cases ei : (y :: ys)[i]? with
            | none => rw [ei] at hd'; cases hd'
            | some q =>
              rw [ei] at hd'
              have hq : q = m := py_inj (noDics_mem nd (List.mem_of_getElem? ei)) (noDics_mem nd hfm) (Option.some.inj hd')
              subst hq
              obtain ⟨v', ev, rv⟩ := rs.get ei
              rw [hv] at ev
              cases ev
              exact ok.data g' t' rv
        · rw [if_neg hso] at e3
          cases e3
  | _ =>
    rw [ex] at e
    cases e
end
end R

/-! A17: what the turning of expressions is worth. -/
namespace R
open PySem PySem.Spec L2
open PyProof.Rows hiding St
def FE (X : Cx) (W : WX) (C : CF) (f : Expr → Option E) : Prop := ∀ e i, f e = some i → PE X e (T X.K W C i)
def FT (X : Cx) (W : WX) (C : CF) (f : Expr → Option E) : Prop := ∀ e i, f e = some i → PT X e (TT' X.K W C i)
section
variable {C : CF} {c : CC} {X : Cx} {W : WX} {f : Expr → Option E}
theorem bind_some {α β : Type} {o : Option α} {g : α → Option β} {b : β} (h : o.bind g = some b) : ∃ a, o = some a ∧ g a = some b := by
  cases o with
  | none => cases h
  | some a => exact ⟨a, rfl, h⟩
theorem map_some {α β : Type} {o : Option α} {g : α → β} {b : β} (h : o.map g = some b) : ∃ a, o = some a ∧ g a = b := by
  cases o with
  | none => cases h
  | some a => exact ⟨a, rfl, Option.some.inj h⟩
theorem if_some {α : Type} {p : Prop} [Decidable p] {o : Option α} {b : α} (h : (if p then o else none) = some b) : p ∧ o = some b := by
  by_cases hp : p
  · rw [if_pos hp] at h
    exact ⟨hp, h⟩
  · rw [if_neg hp] at h
    cases h
theorem cV_ok (o : XOk C c X) (hf : FE X W C f) {e : Expr} {i : E} (h : cV c f e = some i) : PE X e (TV X.K W C i) := by
  unfold cV at h
  split at h
  · rename_i x p
    split at h
    · rename_i r hr
      cases h
      have n := o.slot hr
      exact t_vw n.at_ n.vis n.nd n.ncd
    · exact tv_of (hf _ _ h)
  · exact tv_of (hf _ _ h)
theorem cO_ok (hf : FE X W C f) {e : Option Expr} {i : Option E} (h : cO f e = some i) : PO X e (TOo X.K W C i) := by
  cases e with
  | none =>
    cases h
    exact to_none
  | some e =>
    replace h := map_some h; obtain ⟨j, e1, rfl⟩ := h
    exact to_some (hf _ _ e1)
theorem mapO_tl (hf : FE X W C f) : ∀ {es : List Expr} {is : List E}, es.all notStar = true → mapO f es = some is → PA X es (TL X.K W C is)
  | [], is, _, h => by
    cases h
    exact tl_nil
  | e :: es, is, hs, h => by
    rw [List.all_cons, Bool.and_eq_true] at hs
    replace h := bind_some h; obtain ⟨i, e1, h⟩ := h
    replace h := map_some h; obtain ⟨js, e2, rfl⟩ := h
    exact tl_cons (hf _ _ e1) (mapO_tl hf hs.2 e2) hs.1
theorem nameOf_some {e : Expr} {x : Str} (h : nameOf e = some x) : ∃ p, e = .Name x p := by
  unfold nameOf at h
  split at h
  · cases h
    exact ⟨_, rfl⟩
  · cases h
theorem cLd_ok (o : XOk C c X) (hf : FE X W C f) {all : List Expr} : ∀ {es : List Expr} {is : List E}, cLd c f all es = some is → PA X es (TLd X.K W C is) ∧ es.all notStar = true
  | [], is, h => by
    cases h
    exact ⟨ld_nil, rfl⟩
  | e :: es, is, h => by
    replace h := bind_some h; obtain ⟨i, e1, h⟩ := h
    replace h := map_some h; obtain ⟨js, e2, rfl⟩ := h
    obtain ⟨hr, hs⟩ := cLd_ok o hf e2
    split at e1
    · rename_i k hk
      cases e1
      obtain ⟨x, ex, hk1⟩ := bind_some hk
      obtain ⟨_, hk2⟩ := if_some hk1
      have n := o.slot hk2
      clear hk hk1 hk2
      obtain ⟨p, rfl⟩ := nameOf_some ex
      exact ⟨ld_lend n.at_ n.vis n.nd n.ncd hr, by rw [List.all_cons, hs]; rfl⟩
    · obtain ⟨j, e3, h⟩ := bind_some e1
      replace h := if_some h; obtain ⟨hc, h⟩ := h
      cases h
      rw [Bool.and_eq_true] at hc
      exact ⟨ld_cons (by simpa using hc.1) (hf _ _ e3) hr hc.2, by rw [List.all_cons, hs, hc.2]; rfl⟩
theorem cTys_ok (o : XOk C c X) : ∀ {es : List Expr} {ts : List Ty}, cTys c es = some ts → ∃ ns, es = tyEs ns ∧ Paired (fun (q : Str × Pos) (t : Ty) => BlOk X q.1 (.type (tyName t))) ns ts
  | [], ts, h => by
    cases h
    exact ⟨[], rfl, .nil⟩
  | e :: es, ts, h => by
    cases e with
    | Name x p =>
      rw [cTys] at h
      replace h := if_some h; obtain ⟨hb, h⟩ := h
      replace h := bind_some h; obtain ⟨t, e1, h⟩ := h
      replace h := map_some h; obtain ⟨us, e2, rfl⟩ := h
      obtain ⟨ns, rfl, pr⟩ := cTys_ok o e2
      exact ⟨(x, p) :: ns, rfl, .cons (o.bl hb (tyTab_ok _ (PySem.mem_of_lookup e1))) pr⟩
    | _ => simp [cTys] at h
theorem cBo_ok (hf : FE X W C f) {op : BoolOp} {pos : Pos} : ∀ {es : List Expr} {i : E}, cBo f op es = some i → PE X (.BoolOp op es pos) (T X.K W C i)
  | [], _, h => by cases h
  | [a], i, h => t_one (hf _ _ h)
  | a :: b :: r, i, h => by
    replace h := bind_some h; obtain ⟨ia, e1, h⟩ := h
    replace h := map_some h; obtain ⟨ib, e2, rfl⟩ := h
    cases op with
    | And => exact t_and (hf _ _ e1) (cBo_ok hf e2)
    | Or => exact t_or (hf _ _ e1) (cBo_ok hf e2)
theorem cBo_okT (hf : FT X W C f) {op : BoolOp} {pos : Pos} : ∀ {es : List Expr} {i : E}, cBo f op es = some i → PW X (.BoolOp op es pos) (TT' X.K W C i)
  | [], _, h => by cases h
  | [a], i, h => by
    cases op with
    | And => exact pw_and1 (hf _ _ h)
    | Or => exact pw_or1 (hf _ _ h)
  | a :: b :: r, i, h => by
    replace h := bind_some h; obtain ⟨ia, e1, h⟩ := h
    replace h := map_some h; obtain ⟨ib, e2, rfl⟩ := h
    cases op with
    | And => exact tt_and (hf _ _ e1) (cBo_okT hf e2)
    | Or => exact tt_or (hf _ _ e1) (cBo_okT hf e2)
theorem star1 {a : Expr} (h : [a].all notStar = true) : notStar a = true := by simpa using h
theorem boot_range' : bootBuiltins "range" = some (.type "range") := rfl
theorem cSrc_ok (o : XOk C c X) (hf : FE X W C f) {tg e : Expr} {r : SK × List E} (h : cSrc c f (isTupE tg) e = some r) : PI X tg e (TIr X.K W C r.1 r.2) ∧ notSet e = true := by
  have isT : isTupE tg = true → ∃ es k p, tg = .Tuple es k p := fun h => by
    unfold isTupE at h
    split at h
    · exact ⟨_, _, _, rfl⟩
    · cases h
  unfold cSrc at h
  split at h
  · rename_i x p args pos
    refine ⟨?_, rfl⟩
    have gm : ∀ {P Q : Bool}, (c.bl x && args.all notStar && Q) = true → Gl X x ∧ X.mg x = none ∧ args.all notStar = true ∧ Q = true := fun {P Q} hq => by
      simp only [Bool.and_eq_true] at hq
      obtain ⟨⟨h1, h2⟩, h3⟩ := hq
      unfold CC.bl at h1
      simp only [Bool.and_eq_true, decide_eq_true_eq] at h1
      exact ⟨o.gl h1.1.1, o.blt x h1.1.2, h2, h3⟩
    split at h
    · rename_i hq
      obtain ⟨hg, hm, hs, hx⟩ := gm (P := true) hq
      have hx := of_decide_eq_true hx
      subst hx
      split at h
      · replace h := map_some h; obtain ⟨i, e1, rfl⟩ := h
        exact ti_range1 hg hm (tl_cons (hf _ _ e1) tl_nil (star1 hs)) (star1 hs)
      · replace h := bind_some h; obtain ⟨i, e1, h⟩ := h
        replace h := map_some h; obtain ⟨j, e2, rfl⟩ := h
        simp only [List.all_cons, List.all_nil, Bool.and_true, Bool.and_eq_true] at hs
        exact ti_range2 hg hm (tl_cons (hf _ _ e1) (tl_cons (hf _ _ e2) tl_nil hs.2) hs.1) hs.1 hs.2
      · replace h := bind_some h; obtain ⟨i, e1, h⟩ := h
        replace h := bind_some h; obtain ⟨j, e2, h⟩ := h
        replace h := map_some h; obtain ⟨k, e3, rfl⟩ := h
        simp only [List.all_cons, List.all_nil, Bool.and_true, Bool.and_eq_true] at hs
        exact ti_range3 hg hm (tl_cons (hf _ _ e1) (tl_cons (hf _ _ e2) (tl_cons (hf _ _ e3) tl_nil hs.2.2) hs.2.1) hs.1) hs.1 (by simp [hs.2.1, hs.2.2])
      · cases h
    · split at h
      · rename_i hq
        obtain ⟨hg, hm, hs, hx⟩ := gm (P := true) hq
        have hx := of_decide_eq_true hx
        subst hx
        split at h
        · replace h := if_some h; obtain ⟨ht, h⟩ := h
          obtain ⟨es, k, tp, rfl⟩ := isT ht
          replace h := map_some h; obtain ⟨i, e1, rfl⟩ := h
          exact ti_enum hg hm (tl_cons (hf _ _ e1) tl_nil (star1 hs)) (star1 hs)
        · cases h
      · split at h
        · rename_i hq
          obtain ⟨hg, hm, hs, hx⟩ := gm (P := true) hq
          have hx := of_decide_eq_true hx
          subst hx
          split at h
          · replace h := if_some h; obtain ⟨ht, h⟩ := h
            obtain ⟨es, k, tp, rfl⟩ := isT ht
            replace h := bind_some h; obtain ⟨i, e1, h⟩ := h
            replace h := map_some h; obtain ⟨j, e2, rfl⟩ := h
            simp only [List.all_cons, List.all_nil, Bool.and_true, Bool.and_eq_true] at hs
            exact ti_zip hg hm (tl_cons (hf _ _ e1) (tl_cons (hf _ _ e2) tl_nil hs.2) hs.1) hs.1 (by simp [hs.2])
          · cases h
        · split at h
          · rename_i hq
            obtain ⟨hg, hm, hs, hx⟩ := gm (P := true) hq
            have hx := of_decide_eq_true hx
            subst hx
            split at h
            · replace h := map_some h; obtain ⟨i, e1, rfl⟩ := h
              exact ti_rev hg hm (hf _ _ e1) (star1 hs)
            · cases h
          · replace h := map_some h; obtain ⟨i, e1, rfl⟩ := h
            exact ti_seq (hf _ _ e1)
  · replace h := if_some h; obtain ⟨hn, h⟩ := h
    replace h := map_some h; obtain ⟨i, e1, rfl⟩ := h
    exact ⟨ti_seq (hf _ _ e1), hn⟩
mutual
theorem cTg_ok (o : XOk C c X) {A : List Nat} : ∀ {e : Expr} {t : Tg}, cTg c A e = some t → PG X e (TGt X.K A t)
  | .Name x p, t, h => by
    rw [cTg] at h
    replace h := if_some h; obtain ⟨hl, h⟩ := h
    replace h := bind_some h; obtain ⟨i, e1, h⟩ := h
    replace h := if_some h; obtain ⟨hA, h⟩ := h
    cases h
    exact tg_name (by rw [o.N]; exact o.nd) (by rw [o.N]; exact idx_ok e1) (o.sto hl) hA
  | .Tuple es k p, t, h => by
    rw [cTg] at h
    replace h := map_some h; obtain ⟨ts, e1, rfl⟩ := h
    obtain ⟨h1, h2, h3⟩ := cTgs_ok o e1
    exact tg_tup o.calm h1 h2 h3
  | .BoolOp _ _ _, _, h | .NamedExpr _ _ _, _, h | .BinOp _ _ _ _, _, h | .UnaryOp _ _ _, _, h | .Lambda _ _ _ _, _, h | .IfExp _ _ _ _, _, h | .Dict _ _ _, _, h | .Set _ _ _, _, h | .ListComp _ _ _ _, _, h | .SetComp _ _ _ _, _, h
  | .DictComp _ _ _ _ _, _, h | .GeneratorExp _ _ _ _, _, h | .Await _ _, _, h | .Yield _ _, _, h | .YieldFrom _ _, _, h | .Compare _ _ _ _, _, h | .Call _ _ _ _, _, h | .FormattedValue _ _ _ _, _, h | .JoinedStr _ _, _, h
  | .Constant _ _ _, _, h | .Attribute _ _ _, _, h | .Subscript _ _ _, _, h | .Starred _ _, _, h | .List _ _, _, h | .Slice _ _ _ _, _, h => by simp [cTg] at h
theorem cTgs_ok (o : XOk C c X) {A : List Nat} : ∀ {es : List Expr} {ts : List Tg}, cTgs c A es = some ts → PGs X es (TGl X.K A ts) ∧ (assignEach es X.env).length = ts.length ∧ (assignEach es X.env).findIdx? (·.1) = none
  | [], ts, h => by
    rw [cTgs] at h
    cases h
    exact ⟨tgl_nil, rfl, rfl⟩
  | e :: es, ts, h => by
    rw [cTgs] at h
    replace h := bind_some h; obtain ⟨t, e1, h⟩ := h
    replace h := map_some h; obtain ⟨us, e2, rfl⟩ := h
    obtain ⟨h1, h2, h3⟩ := cTgs_ok o e2
    have ae : assignEach (e :: es) X.env = (false, assign e X.env) :: assignEach es X.env := by
      cases e <;> first
        | rfl
        | (simp [cTg] at e1)
    refine ⟨tgl_cons (cTg_ok o e1) h1 (by rw [ae]; rfl), ?_, ?_⟩
    · rw [ae, List.length_cons, h2, List.length_cons]
    · rw [ae, List.findIdx?_cons]
      simp [h3]
end
theorem biCall_ok (o : XOk C c X) (hf : FE X W C f) {x : Str} {args : List Expr} {i : E} {p pos : Pos} (h : biCall c f x args = some i) : PE X (.Call (.Name x p) args [] pos) (T X.K W C i) := by
  unfold biCall at h
  replace h := if_some h; obtain ⟨hq, h⟩ := h
  rw [Bool.and_eq_true] at hq
  obtain ⟨hb, hs⟩ := hq
  split at h
  · rename_i hx
    subst hx
    have hB : BlOk X "isinstance" (.builtin "isinstance") := o.bl hb rfl
    split at h
    · rename_i a t pt
      replace h := bind_some h; obtain ⟨ts, e1, h⟩ := h
      replace h := map_some h; obtain ⟨j, e2, rfl⟩ := h
      rw [cTys] at e1
      obtain ⟨hb2, e1⟩ := if_some e1
      obtain ⟨ty, e3, e1⟩ := bind_some e1
      cases e1
      simp only [List.all_cons, Bool.and_eq_true] at hs
      exact t_isi1 hB (o.bl hb2 (tyTab_ok _ (PySem.mem_of_lookup e3))) (cV_ok o hf e2) hs.1
    · replace h := bind_some h; obtain ⟨ts, e1, h⟩ := h
      replace h := if_some h; obtain ⟨hl, h⟩ := h
      replace h := map_some h; obtain ⟨j, e2, rfl⟩ := h
      obtain ⟨ns, rfl, pr⟩ := cTys_ok o e1
      simp only [List.all_cons, Bool.and_eq_true] at hs
      exact t_isiT hB pr hl (cV_ok o hf e2) hs.1
    · cases h
  · rename_i hx
    split at h
    · rename_i a
      replace h := bind_some h; obtain ⟨b, e1, h⟩ := h
      replace h := if_some h; obtain ⟨hc, h⟩ := h
      replace h := map_some h; obtain ⟨j, e2, rfl⟩ := h
      have hm := PySem.mem_of_lookup e1
      have hB := o.bl hb (biTab_ok _ hm)
      by_cases h1 : oneArg b = true
      · exact t_bi1 o.calm h1 hB (cV_ok o hf e2) (star1 hs)
      · rw [Bool.or_eq_true] at hc
        obtain ⟨n, hr⟩ := o.room
        rcases (Bool.or_eq_true _ _).mp (hc.resolve_left h1) with hxs | hxs
        · have hxs : x = "sorted" := of_decide_eq_true hxs
          subst hxs
          have : b = .sorted := by
            have e3 : biTab.lookup ("sorted" : Str) = some Bi.sorted := rfl
            rw [e3] at e1
            exact (Option.some.inj e1).symm
          subst this
          exact t_sorted hr hB (cV_ok o hf e2) (star1 hs)
        · have hxs := of_decide_eq_true hxs
          subst hxs
          have : b = .min := by
            have e3 : biTab.lookup ("min" : Str) = some Bi.min := rfl
            rw [e3] at e1
            exact (Option.some.inj e1).symm
          subst this
          exact t_min hr o.calm hB (cV_ok o hf e2) (star1 hs)
    · rename_i a b
      simp only [List.all_cons, List.all_nil, Bool.and_true, Bool.and_eq_true] at hs
      by_cases hx1 : x = "min"
      · rw [if_pos hx1] at h
        subst hx1
        replace h := bind_some h; obtain ⟨j, e1, h⟩ := h
        replace h := map_some h; obtain ⟨k, e2, rfl⟩ := h
        exact t_bi2 o.calm (.inl rfl) (o.bl hb rfl) (hf _ _ e1) (hf _ _ e2) hs.1 hs.2
      · rw [if_neg hx1] at h
        replace h := if_some h; obtain ⟨hx2, h⟩ := h
        subst hx2
        replace h := bind_some h; obtain ⟨j, e1, h⟩ := h
        replace h := map_some h; obtain ⟨k, e2, rfl⟩ := h
        exact t_bi2 o.calm (.inr rfl) (o.bl hb rfl) (hf _ _ e1) (hf _ _ e2) hs.1 hs.2
    · cases h
theorem methC_ok (o : XOk C c X) (hf : FE X W C f) {x m : Str} {ap cp p : Pos} {args : List Expr} {i : E} (h : methC c f x m ap cp args = some i) : PE X (.Call (.Attribute (.Name x p) m ap) args [] cp) (T X.K W C i) := by
  unfold methC at h
  replace h := bind_some h; obtain ⟨r, e1, h⟩ := h
  replace h := if_some h; obtain ⟨hq, h⟩ := h
  rw [Bool.and_eq_true] at hq
  have n := o.slot e1
  split at h
  · replace h := if_some h; obtain ⟨hm, h⟩ := h
    cases h
    subst hm
    exact t_pop n.at_ n.vis n.nd n.ncd hq.1
  · rename_i a
    by_cases h1 : m = "append"
    · rw [if_pos h1] at h
      subst h1
      replace h := map_some h; obtain ⟨j, e2, rfl⟩ := h
      exact t_append n.at_ n.vis n.nd n.ncd (hf _ _ e2) (star1 hq.2) hq.1
    · rw [if_neg h1] at h
      by_cases h2 : m = "pop"
      · rw [if_pos h2] at h
        subst h2
        replace h := map_some h; obtain ⟨j, e2, rfl⟩ := h
        exact t_popAt n.at_ n.vis n.nd n.ncd (hf _ _ e2) (star1 hq.2) hq.1
      · rw [if_neg h2] at h
        replace h := if_some h; obtain ⟨h3, h⟩ := h
        subst h3
        replace h := map_some h; obtain ⟨j, e2, rfl⟩ := h
        exact t_extend n.at_ n.vis n.nd n.ncd (hf _ _ e2) (star1 hq.2) hq.1
  · cases h
theorem subC_ok (o : XOk C c X) (hf : FE X W C f) {b i : Expr} {j : E} {p : Pos} (h : subC c f b i = some j) : PE X (.Subscript b i p) (T X.K W C j) := by
  unfold subC at h
  split at h
  · replace h := bind_some h; obtain ⟨l, e1, h⟩ := h
    replace h := bind_some h; obtain ⟨hh, e2, h⟩ := h
    split at h
    · rename_i r hr
      cases h
      obtain ⟨x, ex, hk⟩ := bind_some hr
      have n := o.slot hk
      clear hr hk
      obtain ⟨q, rfl⟩ := nameOf_some ex
      exact t_slv n.at_ n.vis n.nd n.ncd (cO_ok hf e1) (cO_ok hf e2)
    · replace h := map_some h; obtain ⟨ib, e3, rfl⟩ := h
      exact t_sl (hf _ _ e3) (cO_ok hf e1) (cO_ok hf e2)
  · replace h := map_some h; obtain ⟨ib, e3, rfl⟩ := h
    exact t_revs (cV_ok o hf e3)
  · cases h
  · by_cases hs : isSl i = true
    · rw [if_pos hs] at h
      cases h
    · rw [if_neg hs] at h
      have hs' : isSl i = false := by simpa using hs
      split at h
      · rename_i r hr
        replace h := map_some h; obtain ⟨ii, e1, rfl⟩ := h
        obtain ⟨x, ex, hk⟩ := bind_some hr
        have n := o.slot hk
        clear hr hk
        obtain ⟨q, rfl⟩ := nameOf_some ex
        exact t_idxv n.at_ n.vis n.nd n.ncd (hf _ _ e1) hs'
      · replace h := bind_some h; obtain ⟨ib, e1, h⟩ := h
        replace h := map_some h; obtain ⟨ii, e2, rfl⟩ := h
        exact t_idx (hf _ _ e1) (hf _ _ e2) hs'
theorem tab_ok (o : XOk C c X) {b : Expr} {kvs : List (Str × Int)} (h : c.tab b = some kvs) : ∃ x p, b = .Name x p ∧ TabOk X x kvs ∧ Gl X x ∧ (x == ("__debug__" : Str)) = false := by
  unfold CC.tab at h
  split at h
  · rename_i x p
    replace h := if_some h; obtain ⟨hq, h⟩ := h
    rw [Bool.and_eq_true] at hq
    exact ⟨x, p, rfl, o.tabs _ (PySem.mem_of_lookup h), o.gl hq.1, (plainNm_ok hq.2).1⟩
  · cases h
theorem inOp_ok {op : CmpOp} {no : Bool} (h : inOp op = some no) : op = if no then .NotIn else .In := by
  cases op <;> simp [inOp] at h <;> subst h <;> rfl
theorem dic_ok (o : XOk C c X) {b : Expr} {r : Nat} (h : c.dic b = some r) : ∃ x p, b = .Name x p ∧ NmOk X x r := by
  unfold CC.dic at h
  split at h
  · split at h
    · exact ⟨_, _, rfl, o.slot h⟩
    · cases h
  · cases h
theorem subT_ok (o : XOk C c X) (hf : FE X W C f) {b i : Expr} {j : E} {p : Pos} (h : subT c f b i = some j) : PE X (.Subscript b i p) (T X.K W C j) := by
  unfold subT at h
  obtain ⟨rn, hr⟩ := o.room
  split at h
  · rename_i r hk
    obtain ⟨x, q, rfl, n⟩ := dic_ok o hk
    by_cases hs : isSl i = true
    · rw [if_pos hs] at h; cases h
    · rw [if_neg hs] at h
      replace h := map_some h; obtain ⟨ii, e1, rfl⟩ := h
      exact t_dget hr n.at_ n.vis n.nd n.ncd (hf _ _ e1) (by simpa using hs)
  split at h
  · rename_i kvs hk
    obtain ⟨x, q, rfl, ht, hg, hd⟩ := tab_ok o hk
    by_cases hs : isSl i = true
    · rw [if_pos hs] at h; cases h
    · rw [if_neg hs] at h
      replace h := map_some h; obtain ⟨ii, e1, rfl⟩ := h
      exact t_kat ht hg hd (hf _ _ e1) (by simpa using hs)
  · exact subC_ok o hf h
theorem cmp1_ok (o : XOk C c X) (hf : FE X W C f) {a b : Expr} {op : CmpOp} {j : E} {pos : Pos} (h : cmp1 c f a op b = some j) : PE X (.Compare a [op] [b] pos) (T X.K W C j) ∧ PT X (.Compare a [op] [b] pos) (TT' X.K W C j) := by
  obtain ⟨rn, hr⟩ := o.room
  unfold cmp1 at h
  split at h
  · rename_i r no hk hn
    obtain ⟨x, q, rfl, n⟩ := dic_ok o hk
    have e := inOp_ok hn
    subst e
    replace h := map_some h; obtain ⟨ia, e1, rfl⟩ := h
    exact ⟨t_din hr n.at_ n.vis n.nd n.ncd (hf _ _ e1), tt_din hr n.at_ n.vis n.nd n.ncd (hf _ _ e1)⟩
  split at h
  · rename_i kvs no hk hn
    obtain ⟨x, q, rfl, ht, hg, hd⟩ := tab_ok o hk
    have e := inOp_ok hn
    subst e
    replace h := map_some h; obtain ⟨ia, e1, rfl⟩ := h
    exact ⟨t_kin ht hg hd (hf _ _ e1), tt_kin ht hg hd (hf _ _ e1)⟩
  · replace h := if_some h; obtain ⟨hs, h⟩ := h
    replace h := bind_some h; obtain ⟨ia, e1, h⟩ := h
    replace h := map_some h; obtain ⟨ib, e2, rfl⟩ := h
    have := copOf_ok op
    refine ⟨?_, ?_⟩
    · have q := t_cmp (pos := pos) (co := copOf op) hr (hf _ _ e1) (cV_ok o hf e2) (notSet_ok hs)
      rw [this] at q
      exact q
    · have q := tt_cmp (pos := pos) (co := copOf op) hr (hf _ _ e1) (cV_ok o hf e2) (notSet_ok hs)
      rw [this] at q
      exact q
theorem cmp3_ok (o : XOk C c X) (hf : FE X W C f) {a b d g : Expr} {op op' op2 : CmpOp} {j : E} {pos : Pos} (h : cmp3 c f a op op' op2 b d g = some j) : PE X (.Compare a [op, op', op2] [b, d, g] pos) (T X.K W C j) ∧ PT X (.Compare a [op, op', op2] [b, d, g] pos) (TT' X.K W C j) := by
  obtain ⟨rn, hr⟩ := o.room
  unfold cmp3 at h
  replace h := if_some h; obtain ⟨hs, h⟩ := h
  replace h := bind_some h; obtain ⟨ia, e1, h⟩ := h
  replace h := bind_some h; obtain ⟨ib, e2, h⟩ := h
  replace h := bind_some h; obtain ⟨ic, e3, h⟩ := h
  replace h := map_some h; obtain ⟨ig, e4, rfl⟩ := h
  have k := copOf_ok op
  have k' := copOf_ok op'
  have k2 := copOf_ok op2
  refine ⟨?_, ?_⟩
  · have q := t_chain3 (pos := pos) (co := copOf op) (co' := copOf op') (co2 := copOf op2) hr (hf _ _ e1) (hf _ _ e2) (hf _ _ e3) (cV_ok o hf e4) (notSet_ok hs)
    rw [k, k', k2] at q
    exact q
  · have q := tt_chain3 (pos := pos) (co := copOf op) (co' := copOf op') (co2 := copOf op2) hr (hf _ _ e1) (hf _ _ e2) (hf _ _ e3) (cV_ok o hf e4) (notSet_ok hs)
    rw [k, k', k2] at q
    exact q
theorem XOk.bg (o : XOk C c X) {x : Str} (h : c.bl x = true) : Gl X x ∧ X.mg x = none := by
  unfold CC.bl at h
  simp only [Bool.and_eq_true, decide_eq_true_eq] at h
  exact ⟨o.gl h.1.1, o.blt x h.1.2⟩
theorem rngNm_of {x : Str} (h : (decide (x = ("list" : Str)) || decide (x = ("tuple" : Str))) = true) : x = rngNm (decide (x = ("tuple" : Str))) := by
  rw [Bool.or_eq_true, decide_eq_true_eq, decide_eq_true_eq] at h
  rcases h with rfl | rfl
  · have e : decide (("list" : Str) = ("tuple" : Str)) = false := by decide
    rw [e]; rfl
  · have e : decide (("tuple" : Str) = ("tuple" : Str)) = true := by decide
    rw [e]; rfl
theorem rngC_ok (o : XOk C c X) (hf : FE X W C f) {x : Str} {args : List Expr} {i : E} {p pos : Pos} (h : rngC c f x args = some i) : PE X (.Call (.Name x p) args [] pos) (T X.K W C i) := by
  unfold rngC at h
  split at h
  · rename_i r p2 a pos2
    replace h := if_some h; obtain ⟨hq, h⟩ := h
    simp only [Bool.and_eq_true] at hq
    obtain ⟨h1, h2, h3, h4, h5⟩ := hq
    have h1 := of_decide_eq_true h1
    subst h1
    replace h := map_some h; obtain ⟨j, e1, rfl⟩ := h
    have b1 := o.bg h2
    have b2 := o.bg h3
    have ex := rngNm_of h4
    generalize decide (x = ("tuple" : Str)) = t at ex ⊢
    subst ex
    exact t_rng1 o.calm b2.1 b2.2 b1.1 b1.2 (hf _ _ e1) h5
  · rename_i r p2 a b pos2
    replace h := if_some h; obtain ⟨hq, h⟩ := h
    simp only [Bool.and_eq_true] at hq
    obtain ⟨h1, h2, h3, h4, h5, h6⟩ := hq
    have h1 := of_decide_eq_true h1
    subst h1
    replace h := bind_some h; obtain ⟨j, e1, h⟩ := h
    replace h := map_some h; obtain ⟨k, e2, rfl⟩ := h
    have b1 := o.bg h2
    have b2 := o.bg h3
    have ex := rngNm_of h4
    generalize decide (x = ("tuple" : Str)) = t at ex ⊢
    subst ex
    exact t_rng2 o.calm b2.1 b2.2 b1.1 b1.2 (hf _ _ e1) (hf _ _ e2) h5 h6
  · cases h
theorem cLdK_ok (o : XOk C c X) (hf : FE X W C f) {all : List Expr} : ∀ {kws : List Keyword} {is : List E}, cLd c f all (kws.map (·.value)) = some is → PK X kws (TLd X.K W C is)
  | [], is, h => by
    cases h
    exact ldk_nil
  | ⟨nm, e, pk⟩ :: kws, is, h => by
    replace h := bind_some h; obtain ⟨i, e1, h⟩ := h
    replace h := map_some h; obtain ⟨js, e2, rfl⟩ := h
    have hr := cLdK_ok o hf e2
    split at e1
    · rename_i k hk
      cases e1
      obtain ⟨x, ex, hk1⟩ := bind_some hk
      obtain ⟨_, hk2⟩ := if_some hk1
      have n := o.slot hk2
      clear hk hk1 hk2
      obtain ⟨p, q⟩ := nameOf_some ex
      simp only at q
      subst q
      exact ldk_lend n.at_ n.vis n.nd n.ncd hr
    · obtain ⟨j, e3, h⟩ := bind_some e1
      replace h := if_some h; obtain ⟨hc, h⟩ := h
      cases h
      rw [Bool.and_eq_true] at hc
      exact ldk_cons (by simpa using hc.1) (hf _ _ e3) hr
theorem kwC_ok (o : XOk C c X) (tk : Takes X W) (hf : FE X W C f) {x : Str} {kws : List Keyword} {i : E} {p pos : Pos} (h : kwC c f x kws = some i) : PE X (.Call (.Name x p) [] kws pos) (T X.K W C i) := by
  unfold kwC at h
  replace h := if_some h; obtain ⟨hq, h⟩ := h
  rw [Bool.and_eq_true] at hq
  split at h
  · rename_i k ns hk hns
    replace h := if_some h; obtain ⟨hn, h⟩ := h
    replace h := map_some h; obtain ⟨is, e1, rfl⟩ := h
    obtain ⟨fa, fd, ps, j, d1, d2, d3, d4, d5, d6, d7⟩ := o.defs _ _ (idx_ok hk)
    obtain ⟨q1, q2⟩ := d7 _ (PySem.mem_of_lookup hns) rfl
    exact t_callK tk ⟨o.gl hq.1, (plainNm_ok hq.2).1, fa, fd, ps, j, d1, d2, d4, d5, d6, q1, q2⟩ hn (cLdK_ok o hf e1)
  · cases h
end
end R

/-! A18: expressions, whole. -/
namespace R
open PySem PySem.Spec L2
open PyProof.Rows hiding St
section
variable {C : CF}
theorem XOk.blk {c : CC} {X : Cx} (o : XOk C c X) (s : Shared) (H : Hp) (scope : Scope) (cl : List (Str × Addr)) (C' : Addr) (fp : List Addr) : XOk C (c.blk scope) (X.blk s H scope (compEnvC scope cl C' X.env) fp) where
  N := o.N
  nd := o.nd
  calm := o.calm
  sc := by
    show relS scope X.env.scope = relS scope c.sc
    rw [o.sc]
  room := o.room
  defs := o.defs
  blt := o.blt
  cls := fun p hp => ⟨⟨(o.cls p hp).1.ox, (o.cls p hp).1.mg, (o.cls p hp).1.no, (o.cls p hp).1.init⟩, (o.cls p hp).2⟩
  ext := o.ext
  fn := fun x h => h
  ks := o.ks
  tabs := fun p hp => ⟨(o.tabs p hp).mg, (o.tabs p hp).kd⟩
  isx := o.isx
theorem takesN {X : Cx} : Takes X WN := fun _ _ x => by
  obtain ⟨_, _, _, _, _, _, _, _, _, _, _, _, _, _, _, _, z⟩ := x
  exact z.elim
theorem constD_ok {X : Cx} {k : Const} {x : Dat} {j : Nat} {pos : Pos} (h : constD k = some x) : ∃ v, PE X (.Constant k j pos) (tC v) ∧ ∀ H O, RepD X.K H O x v := by
  cases k <;> simp [constD] at h <;> subst h
  · exact ⟨.non, pe_non, fun H O => by rw [RepD]⟩
  · exact ⟨.bl _, pe_bl, fun H O => by rw [RepD]⟩
  · exact ⟨.int _, pe_int, fun H O => by rw [RepD]⟩
  · exact ⟨.str _, pe_str, fun H O => by rw [RepD]⟩
theorem own_names {c : CC} {tg : Expr} {own : List (Str × Nat)} (h : ownOf c tg = some own) : True := trivial
theorem compC_ok {fE fT : CC → Expr → Option E} (ih : ∀ (c : CC) (X : Cx) (W : WX), XOk C c X → Takes X W → FE X W C (fE c) ∧ FT X W C (fT c)) {c : CC} {X : Cx} {W : WX} (o : XOk C c X) (hE : FE X W C (fE c)) {elt tg iter : Expr} {ifs : List Expr} {scope : Scope} {i : E} (h : compC fE fT c elt tg iter ifs scope = some i) :
    ∃ (own : List (Str × Nat)) (k : SK) (ss : List E) (it : Tg) (cs : List E) (ie : E), i = .comp k ss it cs (own.map (·.2)) ie ∧ PI X tg iter (TIr X.K W C k ss) ∧ BlkOk X.N X.env.scope scope own ∧
      (∀ (s : Shared) (H : Hp) (C' : Addr) (cl : List (Str × Addr)) (fp : List Addr), PG (X.blk s H scope (compEnvC scope cl C' X.env) fp) tg (TGt X.K (own.map (·.2)) it)) ∧ (∀ (s : Shared) (H : Hp) (C' : Addr) (cl : List (Str × Addr)) (fp : List Addr), PTs (X.blk s H scope (compEnvC scope cl C' X.env) fp) ifs (TTs X.K WN C cs)) ∧
      (∀ (s : Shared) (H : Hp) (C' : Addr) (cl : List (Str × Addr)) (fp : List Addr), PE (X.blk s H scope (compEnvC scope cl C' X.env) fp) elt (T X.K WN C ie)) ∧ notSet iter = true := by
  unfold compC at h
  replace h := bind_some h; obtain ⟨own, e0, h⟩ := h
  replace h := if_some h; obtain ⟨hb, h⟩ := h
  replace h := bind_some h; obtain ⟨src, e1, h⟩ := h
  replace h := bind_some h; obtain ⟨it, e2, h⟩ := h
  replace h := bind_some h; obtain ⟨cs, e3, h⟩ := h
  replace h := map_some h; obtain ⟨ie, e4, rfl⟩ := h
  obtain ⟨hi, hn⟩ := cSrc_ok o hE e1
  refine ⟨own, src.1, src.2, it, cs, ie, rfl, hi, by rw [o.N, o.sc]; exact blkOk_by hb, fun s H C' cl fp => cTg_ok (o.blk s H _ cl C' fp) e2, fun s H C' cl fp => ?_, fun s H C' cl fp => (ih _ _ _ (o.blk s H _ cl C' fp) takesN).1 _ _ e4, hn⟩
  split at e3
  · cases e3
    exact tts_nil
  · replace e3 := map_some e3; obtain ⟨j, e5, rfl⟩ := e3
    exact tts_one ((ih _ _ _ (o.blk s H _ cl C' fp) takesN).2 _ _ e5)
  · cases e3
theorem cSrcV_ok {C : CF} {c : CC} {X : Cx} (o : XOk C c X) {tg iter : Expr} {r : SK × Nat} (h : cSrcV c (isTupE tg) iter = some r) : PI X tg iter (TIrV X.K r.1 r.2) ∧ notSet iter = true := by
  unfold cSrcV at h
  split at h
  · replace h := if_some h; obtain ⟨_, h⟩ := h
    replace h := map_some h; obtain ⟨j, e, rfl⟩ := h
    have n := o.slot e
    exact ⟨ti_seqV n.at_ n.vis n.nd n.ncd, rfl⟩
  · replace h := if_some h; obtain ⟨hq, h⟩ := h
    rw [Bool.and_eq_true, Bool.and_eq_true, Bool.and_eq_true] at hq
    obtain ⟨hf, hb, ht, _⟩ := hq
    have := of_decide_eq_true hf
    subst this
    replace h := map_some h; obtain ⟨j, e, rfl⟩ := h
    have n := o.slot e
    have hT : ∃ es k p, tg = .Tuple es k p := by
      unfold isTupE at ht
      split at ht
      · exact ⟨_, _, _, rfl⟩
      · cases ht
    obtain ⟨es, k, p, rfl⟩ := hT
    exact ⟨ti_enumV (o.bg hb).1 (o.bg hb).2 n.at_ n.vis n.nd n.ncd, rfl⟩
  · cases h
theorem compVC_ok {fE fT : CC → Expr → Option E} (ih : ∀ (c : CC) (X : Cx) (W : WX), XOk C c X → Takes X W → FE X W C (fE c) ∧ FT X W C (fT c)) {c : CC} {X : Cx} (o : XOk C c X) {elt tg iter : Expr} {ifs : List Expr} {scope : Scope} {i : E} (h : compVC fE fT c elt tg iter ifs scope = some i) :
    ∃ (own : List (Str × Nat)) (k : SK) (r : Nat) (it : Tg) (cs : List E) (ie : E), i = .compV k r it cs (own.map (·.2)) ie ∧ PI X tg iter (TIrV X.K k r) ∧ BlkOk X.N X.env.scope scope own ∧
      (∀ (s : Shared) (H : Hp) (C' : Addr) (cl : List (Str × Addr)) (fp : List Addr), PG (X.blk s H scope (compEnvC scope cl C' X.env) fp) tg (TGt X.K (own.map (·.2)) it)) ∧ (∀ (s : Shared) (H : Hp) (C' : Addr) (cl : List (Str × Addr)) (fp : List Addr), PTs (X.blk s H scope (compEnvC scope cl C' X.env) fp) ifs (TTs X.K WN C cs)) ∧
      (∀ (s : Shared) (H : Hp) (C' : Addr) (cl : List (Str × Addr)) (fp : List Addr), PE (X.blk s H scope (compEnvC scope cl C' X.env) fp) elt (T X.K WN C ie)) ∧ notSet iter = true := by
  unfold compVC at h
  replace h := bind_some h; obtain ⟨own, e0, h⟩ := h
  replace h := if_some h; obtain ⟨hb, h⟩ := h
  replace h := bind_some h; obtain ⟨src, e1, h⟩ := h
  replace h := bind_some h; obtain ⟨it, e2, h⟩ := h
  replace h := bind_some h; obtain ⟨cs, e3, h⟩ := h
  replace h := map_some h; obtain ⟨ie, e4, rfl⟩ := h
  obtain ⟨hi, hn⟩ := cSrcV_ok o e1
  refine ⟨own, src.1, src.2, it, cs, ie, rfl, hi, by rw [o.N, o.sc]; exact blkOk_by hb, fun s H C' cl fp => cTg_ok (o.blk s H _ cl C' fp) e2, fun s H C' cl fp => ?_, fun s H C' cl fp => (ih _ _ _ (o.blk s H _ cl C' fp) takesN).1 _ _ e4, hn⟩
  split at e3
  · cases e3
    exact tts_nil
  · replace e3 := map_some e3; obtain ⟨j, e5, rfl⟩ := e3
    exact tts_one ((ih _ _ _ (o.blk s H _ cl C' fp) takesN).2 _ _ e5)
  · cases e3
theorem cEsE {fE fT : CC → Expr → Option E} (ih : ∀ (c : CC) (X : Cx) (W : WX), XOk C c X → Takes X W → FE X W C (fE c) ∧ FT X W C (fT c)) : ∀ (c : CC) (X : Cx) (W : WX), XOk C c X → Takes X W → FE X W C (stepE fE fT c) ∧ FT X W C (stepT fE fT c) := by
  intro c X W o tk
  obtain ⟨hE, hT⟩ := ih c X W o tk
  obtain ⟨rn, hr⟩ := o.room
  have chn : ∀ {a b d : Expr} {op op' : CmpOp} {pos : Pos} {i : E}, (if notSet d then (fE c a).bind fun ia => (fE c b).bind fun ib => (cV c (fE c) d).map fun id => E.chain (copOf op) (copOf op') ia ib id else none) = some i → PE X (.Compare a [op, op'] [b, d] pos) (T X.K W C i) ∧ PT X (.Compare a [op, op'] [b, d] pos) (TT' X.K W C i) := fun {a b d op op' pos i} h => by
    replace h := if_some h; obtain ⟨hs, h⟩ := h
    replace h := bind_some h; obtain ⟨ia, e1, h⟩ := h
    replace h := bind_some h; obtain ⟨ib, e2, h⟩ := h
    replace h := map_some h; obtain ⟨ic, e3, rfl⟩ := h
    have e := copOf_ok op
    have e' := copOf_ok op'
    refine ⟨?_, ?_⟩
    · have q := t_chain (pos := pos) (co := copOf op) (co' := copOf op') hr (hE _ _ e1) (hE _ _ e2) (cV_ok o hE e3) (notSet_ok hs)
      rw [e, e'] at q
      exact q
    · have q := tt_chain (pos := pos) (co := copOf op) (co' := copOf op') hr (hE _ _ e1) (hE _ _ e2) (cV_ok o hE e3) (notSet_ok hs)
      rw [e, e'] at q
      exact q
  refine ⟨fun e i h => ?_, fun e i h => ?_⟩
  · unfold stepE at h
    split at h
    · replace h := map_some h; obtain ⟨x, e1, rfl⟩ := h
      obtain ⟨v, he, r⟩ := constD_ok (X := X) e1
      exact t_lit he r
    · split at h
      · rename_i r hr'
        cases h
        have nm := o.slot hr'
        exact t_get nm.at_ nm.vis nm.nd nm.ncd
      · replace h := if_some h; obtain ⟨hq, h⟩ := h
        replace h := map_some h; obtain ⟨x, e1, rfl⟩ := h
        rw [Bool.and_eq_true] at hq
        obtain ⟨v, u, hm, rv, rd⟩ := o.ks _ (PySem.mem_of_lookup e1)
        exact t_lit (pe_glob (o.gl hq.1) hm rv (plainNm_ok hq.2).1) rd
    · replace h := if_some h; obtain ⟨hs, h⟩ := h
      replace h := map_some h; obtain ⟨is, e1, rfl⟩ := h
      exact t_tup (mapO_tl hE hs e1)
    · replace h := if_some h; obtain ⟨hs, h⟩ := h
      replace h := map_some h; obtain ⟨is, e1, rfl⟩ := h
      exact t_lst (mapO_tl hE hs e1)
    · replace h := bind_some h; obtain ⟨bo, e0, h⟩ := h
      replace h := bind_some h; obtain ⟨ia, e1, h⟩ := h
      replace h := map_some h; obtain ⟨ib, e2, rfl⟩ := h
      have := bopOf_ok e0
      subst this
      exact t_bin (hE _ _ e1) (hE _ _ e2)
    · replace h := map_some h; obtain ⟨ia, e1, rfl⟩ := h
      exact t_neg (hE _ _ e1)
    · replace h := map_some h; obtain ⟨ia, e1, rfl⟩ := h
      exact t_not (hE _ _ e1)
    · exact cBo_ok hE h
    · replace h := bind_some h; obtain ⟨it, e0, h⟩ := h
      replace h := bind_some h; obtain ⟨ia, e1, h⟩ := h
      replace h := map_some h; obtain ⟨ib, e2, rfl⟩ := h
      exact t_ite (hT _ _ e0) (hE _ _ e1) (hE _ _ e2)
    · exact (cmp1_ok o hE h).1
    · exact (cmp3_ok o hE h).1
    · exact (chn h).1
    · exact subT_ok o hE h
    · unfold compX at h
      split at h
      · rename_i j hj
        cases h
        obtain ⟨own, k, r, it, cs, ie, rfl, hi, ok, hg, ht, he, hn⟩ := compVC_ok ih o hj
        exact t_compV o.calm (by rw [o.N]; exact o.nd) hi ok hg ht he (notSet_fold hn _)
      obtain ⟨own, k, ss, it, cs, ie, rfl, hi, ok, hg, ht, he, hn⟩ := compC_ok ih o hE h
      exact t_comp o.calm (by rw [o.N]; exact o.nd) hi ok hg ht he (notSet_fold hn _)
    · replace h := if_some h; obtain ⟨hq, h⟩ := h
      rw [Bool.and_eq_true] at hq
      split at h
      · rename_i k hk
        replace h := map_some h; obtain ⟨is, e1, rfl⟩ := h
        have hc : CallOk C X _ k := ⟨o.gl hq.1, (plainNm_ok hq.2).1, (by
          obtain ⟨fa, fd, ps, j, d1, d2, d3, d4, d5, d6, _⟩ := o.defs _ _ (idx_ok hk)
          exact ⟨fa, fd, ps, j, d1, d2, d3, d4, d5, d6⟩)⟩
        obtain ⟨ha, hs⟩ := cLd_ok o hE e1
        rename_i args _ _
        cases args with
        | nil =>
          cases e1
          exact t_call0 tk hc
        | cons a as => exact t_call tk hc ha hs
      · split at h
        · rename_i i hi
          cases h
          exact rngC_ok o hE hi
        · exact biCall_ok o hE h
    · exact kwC_ok o tk hE h
    · exact methC_ok o hE h
    · cases h
      exact t_dnew
    · cases h
  · unfold stepT at h
    split at h
    · replace h := map_some h; obtain ⟨ia, e1, rfl⟩ := h
      exact tt_not (hT _ _ e1)
    · exact (cBo_okT hT h).pt
    · exact (cmp1_ok o hE h).2
    · exact (cmp3_ok o hE h).2
    · exact (chn h).2
    · replace h := if_some h; obtain ⟨hp, h⟩ := h
      exact tt_plain hp (cV_ok o hE h)
theorem cE_all : ∀ (n : Nat) (c : CC) (X : Cx) (W : WX), XOk C c X → Takes X W → FE X W C ((cET n).1 c) ∧ FT X W C ((cET n).2 c)
  | 0 => fun c X W o tk => ⟨fun e i h => (by cases h), fun e i h => (by cases h)⟩
  | n + 1 => cEsE (cE_all n)
end
end R

/-! A19: statements, whole. -/
namespace R
open PySem PySem.Spec L2
open PyProof.Rows hiding St
/-- where statements run -/
structure SOk (X : Cx) (W : WX) : Prop where
  stk : X.stack = X.env :: X.outer
  fr : X.env.frame = some X.env.locals
  own : PassesOwn (model X.prog X.w) X.A X.env X.xe
  tk : Takes X W
section
variable {C : CF} {c : CC} {X : Cx} {W : WX} {fu : Nat} {A : List Nat}
theorem XOk.tr (o : XOk C c X) (pn : List (Addr × Obj)) (xe : Value → Shared → Prop) : XOk C c (X.tr pn xe) where
  N := o.N
  nd := o.nd
  calm := o.calm
  sc := o.sc
  room := o.room
  defs := o.defs
  blt := o.blt
  cls := fun p hp => ⟨⟨(o.cls p hp).1.ox, (o.cls p hp).1.mg, (o.cls p hp).1.no, (o.cls p hp).1.init⟩, (o.cls p hp).2⟩
  ext := o.ext
  fn := o.fn
  ks := o.ks
  tabs := fun p hp => ⟨(o.tabs p hp).mg, (o.tabs p hp).kd⟩
  isx := o.isx
theorem notComp_sw {e : Expr} (h : notComp e = true) (t : Option Expr) (l : Nat) (env : Env) : swapsWith e t l env = pure false := by
  unfold swapsWith
  cases e <;> first
    | rfl
    | (simp [notComp] at h)
theorem sw_sub (e o i : Expr) (p : Pos) (l : Nat) (env : Env) : swapsWith e (some (.Subscript o i p)) l env = pure false := by
  unfold swapsWith
  cases e <;> rfl
theorem isFun_ok {sc : Scope} (h : isFun sc = true) : sc.kind = .function := by
  unfold isFun at h
  split at h
  · assumption
  · cases h
theorem blockKind_ok {env : Env} (h : env.scope.kind = .function) : env.blockKind = .function := by
  unfold Env.blockKind
  rw [h]
  rfl
theorem sw2 {env : Env} {x y : Str} {a b : Expr} {px py pt : Pos} {kt k2 : Nat} {pt2 : Pos} (hk : env.blockKind = .function) (hx : env.kindOf x = some .local) (hy : env.kindOf y = some .local) (hl : (py.line == px.line) = true) (hne : x ≠ y) (ha : notStar a = true) (hb : notStar b = true)
    (h1 : [a, b].all (foldedForSure 8) = false) (h2 : [a, b].all (constantsAlone 8) = false) : swappedStores [.Tuple [.Name x px, .Name y py] kt pt] (.Tuple [a, b] k2 pt2) env = pure (some [x, y]) := by
  have e1 : (x == y) = false := by simpa using hne
  have e2 : (y == x) = false := by simpa using Ne.symm hne
  unfold swappedStores
  simp only [hk, hx, hy, List.length_cons, List.length_nil, h1, h2, Expr.pos, List.head?_cons, Option.map_some, Option.getD_some, hl]
  simp [List.filterMap, hx, hy, hl, List.eraseDups, List.eraseDupsBy, List.eraseDupsBy.loop, e1, e2, Expr.pos]
  intro h
  exfalso
  rcases h with h | h
  · split at h
    · simp [notStar] at ha
    · cases h
  · split at h
    · simp [notStar] at hb
    · cases h
theorem sw3 {env : Env} {x y z : Str} {a b d : Expr} {px py pz pt : Pos} {kt k2 : Nat} {pt2 : Pos} (hk : env.blockKind = .function) (hx : env.kindOf x = some .local) (hy : env.kindOf y = some .local) (hz : env.kindOf z = some .local) (hl : (py.line == px.line) = true) (hl2 : (pz.line == px.line) = true) (hne : x ≠ y) (hne2 : x ≠ z) (hne3 : y ≠ z) (ha : notStar a = true) (hb : notStar b = true) (hd : notStar d = true)
    (h1 : [a, b, d].all (foldedForSure 8) = false) (h2 : [a, b, d].all (constantsAlone 8) = false) : swappedStores [.Tuple [.Name x px, .Name y py, .Name z pz] kt pt] (.Tuple [a, b, d] k2 pt2) env = pure (some [x, y, z]) := by
  have e1 : (x == y) = false := by simpa using hne
  have e2 : (y == x) = false := by simpa using Ne.symm hne
  have e3 : (x == z) = false := by simpa using hne2
  have e4 : (z == x) = false := by simpa using Ne.symm hne2
  have e5 : (y == z) = false := by simpa using hne3
  have e6 : (z == y) = false := by simpa using Ne.symm hne3
  unfold swappedStores
  simp only [hk, hx, hy, hz, List.length_cons, List.length_nil, h1, h2, Expr.pos, List.head?_cons, Option.map_some, Option.getD_some, hl]
  simp [List.filterMap, hx, hy, hz, hl, hl2, List.eraseDups, List.eraseDupsBy, List.eraseDupsBy.loop, e1, e2, e3, e4, e5, e6, Expr.pos]
  intro h
  exfalso
  rcases h with h | h | h
  · split at h
    · simp [notStar] at ha
    · cases h
  · split at h
    · simp [notStar] at hb
    · cases h
  · split at h
    · simp [notStar] at hd
    · cases h
theorem kind_cell : ((some NameKind.cell == some NameKind.local) = false) := by decide
theorem sw_cell {env : Env} {e : Expr} {y : Str} {py : Pos} {l : Nat} (hy : env.scope.names.lookup y = some .cell) : swapsWith e (some (.Name y py)) l env = pure false := by
  have ky : env.kindOf y = some .cell := hy
  unfold swapsWith
  cases e <;> first
    | rfl
    | (simp only [ky, kind_cell, Bool.and_false, Bool.false_and] <;> rfl)
theorem fm_len {α β : Type} {f : α → Option β} : ∀ {l : List α} {x : α}, x ∈ l → f x = none → (l.filterMap f).length < l.length
  | y :: l, x, h, e => by
    have hl := List.length_filterMap_le f l
    rcases List.mem_cons.mp h with rfl | q
    · rw [List.filterMap_cons_none e, List.length_cons]
      omega
    · have := fm_len q e
      rw [List.filterMap_cons]
      split
      · rw [List.length_cons]
        omega
      · rw [List.length_cons, List.length_cons]
        omega
theorem swNc {env : Env} {x : Str} {px pt : Pos} {ts vs : List Expr} {kt k2 : Nat} {pt2 : Pos} (hm : Expr.Name x px ∈ ts) (h : env.kindOf x = some .cell) : swappedStores [.Tuple ts kt pt] (.Tuple vs k2 pt2) env = pure none := by
  unfold swappedStores
  dsimp only
  split
  · rfl
  · split
    · rfl
    · rw [if_pos]
      rw [Bool.or_eq_true]
      left
      rw [bne_iff_ne]
      refine Nat.ne_of_lt (fm_len hm ?_)
      simp only [h, kind_cell, Bool.false_and]
      rfl
theorem swFold {env : Env} {pt : Pos} {ts vs : List Expr} {kt k2 : Nat} {pt2 : Pos} (h : vs.all (foldedForSure 8) = true) : swappedStores [.Tuple ts kt pt] (.Tuple vs k2 pt2) env = pure none := by
  unfold swappedStores
  dsimp only
  split
  · rfl
  · split
    · rfl
    · split
      · rfl
      · first
        | rfl
        | (simp only [h, if_true] <;> rfl)
theorem parUf_ok {f : Expr → Option E} (o : XOk C c X) (hf : FE X W C f) {ts vs : List Expr} {i : S} {kt k2 : Nat} {pt pt2 pos : Pos} (hx : vs.all (foldedForSure 8) = true) (h : parU c A f ts vs = some i) : PS X (.Assign [.Tuple ts kt pt] (.Tuple vs k2 pt2) pos) (TSt X.K W C fu A i) := by
  unfold parU at h
  replace h := if_some h; obtain ⟨hs, h⟩ := h
  replace h := bind_some h; obtain ⟨us, e1, h⟩ := h
  replace h := map_some h; obtain ⟨is, e2, rfl⟩ := h
  obtain ⟨h1, h2, h3⟩ := cTgs_ok o e1
  exact st_unp (t_tup (mapO_tl hf hs e2)) (tg_tup o.calm h1 h2 h3) rfl (swFold hx) rfl
theorem parU_ok {f : Expr → Option E} (o : XOk C c X) (hf : FE X W C f) {ts vs : List Expr} {i : S} {kt k2 : Nat} {pt pt2 pos : Pos} {x : Str} {px : Pos} (hm : Expr.Name x px ∈ ts) (hx : c.cel x = true) (h : parU c A f ts vs = some i) : PS X (.Assign [.Tuple ts kt pt] (.Tuple vs k2 pt2) pos) (TSt X.K W C fu A i) := by
  unfold parU at h
  replace h := if_some h; obtain ⟨hs, h⟩ := h
  replace h := bind_some h; obtain ⟨us, e1, h⟩ := h
  replace h := map_some h; obtain ⟨is, e2, rfl⟩ := h
  have kx : X.env.kindOf x = some .cell := by
    show X.env.scope.names.lookup x = _
    rw [o.sc]
    exact (cel_ok hx).1
  obtain ⟨h1, h2, h3⟩ := cTgs_ok o e1
  exact st_unp (t_tup (mapO_tl hf hs e2)) (tg_tup o.calm h1 h2 h3) rfl (swNc hm kx) rfl
theorem sw0 {env : Env} {es : List Expr} {k : Nat} {p : Pos} {e : Expr} (h : (!(isTupE e) || (es.length != 2 && es.length != 3)) = true) : swappedStores [.Tuple es k p] e env = pure none := by
  unfold swappedStores
  cases e <;> first
    | rfl
    | skip
  rename_i vs k2 p2
  have h' : (es.length != 2 && es.length != 3) = true := by simpa [isTupE] using h
  rw [Bool.and_eq_true] at h'
  have e1 : (es.length == 2) = false := by simpa using h'.1
  have e2 : (es.length == 3) = false := by simpa using h'.2
  simp only [e1, e2]
  rfl
theorem cRet_ok {f : Expr → Option E} (o : XOk C c X) (hf : FE X W C f) {e : Expr} {i : E} (h : cRet c f e = some i) : PE X e (T X.K W C i) := by
  unfold cRet at h
  split at h
  · split at h
    · rename_i r hr
      split at h
      · cases h
        have n := o.slot hr
        exact t_mov n.at_ n.vis n.nd n.ncd
      · exact hf _ _ h
    · exact hf _ _ h
  · rename_i es k p
    split at h
    · rename_i hall
      replace h := map_some h; obtain ⟨is, e1, rfl⟩ := h
      refine t_tup (mapO_tl (f := fun e => match (nameOf e).bind fun x => if cntN x es = 1 then c.slot x else none with
        | some r => if c.np ≤ r then some (E.mov r) else f e
        | none => f e) (fun e j hj => ?_) ?_ e1)
      · dsimp only at hj
        split at hj
        · rename_i r hr
          split at hj
          · cases hj
            obtain ⟨x, ex, hk1⟩ := bind_some hr
            obtain ⟨_, hk2⟩ := if_some hk1
            have n := o.slot hk2
            clear hr hk1 hk2
            obtain ⟨q, rfl⟩ := nameOf_some ex
            exact t_mov n.at_ n.vis n.nd n.ncd
          · exact hf _ _ hj
        · exact hf _ _ hj
      · refine List.all_eq_true.mpr fun e he => ?_
        have := List.all_eq_true.mp hall e he
        obtain ⟨x, hx⟩ := Option.isSome_iff_exists.mp this
        obtain ⟨q, rfl⟩ := nameOf_some hx
        rfl
    · exact hf _ _ h
  · exact hf _ _ h
theorem fldss_mem : ∀ {hs : List HE} {f : Str}, (∃ h ∈ hs, f ∈ fldsOf h) → f ∈ fldsOf.fldss hs
  | [], f, ⟨h, hm, _⟩ => by cases hm
  | h0 :: hs, f, ⟨h, hm, hf⟩ => by
    rw [fldsOf.fldss]
    rcases List.mem_cons.mp hm with rfl | hm
    · exact List.mem_append_left _ hf
    · exact List.mem_append_right _ (fldss_mem ⟨h, hm, hf⟩)
theorem cH_ok {nm : Str} {L : List Str} {i : Nat} {a : Addr} {cls : Value} {d : Option Addr} {oe : Obj} {pn : List (Addr × Obj)} (hz : Zc cls d oe) (hfl : ∃ vs, oe.data = .fields vs) (hN : X.N[i]? = some nm) (hv : Vis X.env.scope nm) (hd : (nm == ("__debug__" : Str)) = false) (hcd : (nm == ("__classdict__" : Str)) = false) :
    ∀ (n : Nat) {e : Expr} {h : HE}, (∀ f ∈ fldsOf h, ∀ c ∈ L, XfC X.K (He.ga X.K c) ∧ PySem.W.findIn X.K (.ref (He.ga X.K c)) f = some none) → cH n c nm e = some h → PE (X.suite a ((a, oe) :: pn)) e (TH X.K a cls d L i h)
  | 0, e, h, _, hh => by cases hh
  | n + 1, e, h, hno, hh => by
    rw [cH] at hh
    unfold stepH at hh
    split at hh
    · replace hh := map_some hh; obtain ⟨y, e1, rfl⟩ := hh
      obtain ⟨v, he, r⟩ := constD_ok (X := X.suite a ((a, oe) :: pn)) e1
      exact th_lit (X := X.suite a ((a, oe) :: pn)) he r
    · replace hh := if_some hh; obtain ⟨hx, hh⟩ := hh
      cases hh
      subst hx
      exact th_fld (hno _ (by simp [fldsOf])) hz hfl hN hv hd hcd
    · rename_i es k p
      replace hh := if_some hh; obtain ⟨hq, hh⟩ := hh
      replace hh := map_some hh; obtain ⟨hs, e1, rfl⟩ := hh
      rw [Bool.and_eq_true] at hq
      have key : ∀ {es : List Expr} {hs : List HE}, es.all notStar = true → mapO (cH n c nm) es = some hs → (∀ h ∈ hs, ∀ f ∈ fldsOf h, ∀ c ∈ L, XfC X.K (He.ga X.K c) ∧ PySem.W.findIn X.K (.ref (He.ga X.K c)) f = some none) → PA (X.suite a ((a, oe) :: pn)) es (THs X.K a cls d L i hs) ∧ hs.length = es.length := by
        intro es
        induction es with
        | nil =>
          intro hs _ h _
          cases h
          exact ⟨ths_nil (X := X.suite a ((a, oe) :: pn)), rfl⟩
        | cons e es ih =>
          intro hs hst h hn
          rw [List.all_cons, Bool.and_eq_true] at hst
          replace h := bind_some h; obtain ⟨h0, e2, h⟩ := h
          replace h := map_some h; obtain ⟨hs', e3, rfl⟩ := h
          obtain ⟨h1, h2⟩ := ih hst.2 e3 fun h hm => hn h (List.mem_cons_of_mem _ hm)
          exact ⟨ths_cons (X := X.suite a ((a, oe) :: pn)) (cH_ok hz hfl hN hv hd hcd n (hn h0 List.mem_cons_self) e2) h1 hst.1, by rw [List.length_cons, List.length_cons, h2]⟩
      obtain ⟨h1, h2⟩ := key hq.1 e1 fun h hm f hf => hno f (by
        rw [fldsOf]
        exact fldss_mem ⟨h, hm, hf⟩)
      exact th_tup (X := X.suite a ((a, oe) :: pn)) h1 (by
        have := of_decide_eq_true hq.2
        rw [h2, sizeLine_eq]
        omega)
    · cases hh
theorem cGs_ok {X : Cx} {a : Addr} {cls : Value} {d : Option Addr} {L : List Str} {i : Nat} {f : Expr → Option HG} (hf : ∀ e g, f e = some g → PT X e (TG X.K a cls d L i g)) {op : BoolOp} {pos : Pos} : ∀ {es : List Expr} {g : HG}, cGs f op es = some g → PW X (.BoolOp op es pos) (TG X.K a cls d L i g)
  | [], _, h => by cases h
  | [x], g, h => by
    cases op with
    | And => exact pw_and1 (hf _ _ h)
    | Or => exact pw_or1 (hf _ _ h)
  | x :: y :: r, g, h => by
    replace h := bind_some h; obtain ⟨ga, e1, h⟩ := h
    replace h := map_some h; obtain ⟨gb, e2, rfl⟩ := h
    cases op with
    | And => exact tg_and (hf _ _ e1) (cGs_ok hf e2)
    | Or => exact tg_or (hf _ _ e1) (cGs_ok hf e2)
theorem lookup_all {tb : List (Str × Bool)} {P : Str × Bool → Prop} (h : ∀ q ∈ tb, P q) {c : Str} {b : Bool} (e : tb.lookup c = some b) : P (c, b) := h _ (PySem.mem_of_lookup e)
theorem cG_ok (o : XOk C c X) {nm : Str} {L : List Str} {i : Nat} {a : Addr} {cls : Value} {d : Option Addr} {oe : Obj} {pn : List (Addr × Obj)} (hz : Zc cls d oe) (hfl : ∃ vs, oe.data = .fields vs) (hN : X.N[i]? = some nm) (hv : Vis X.env.scope nm) (hd : (nm == ("__debug__" : Str)) = false) (hcd : (nm == ("__classdict__" : Str)) = false) :
    ∀ (n : Nat) (e : Expr) (g : HG), cG n c nm e = some g → PT (X.suite a ((a, oe) :: pn)) e (TG X.K a cls d L i g)
  | 0, e, g, h => by cases h
  | n + 1, e, g, h => by
    have ih := cG_ok o hz hfl hN hv hd hcd (L := L) (a := a) (pn := pn) n
    rw [cG] at h
    unfold stepG at h
    split at h
    · replace h := map_some h; obtain ⟨g', e1, rfl⟩ := h
      exact tg_not (X := X.suite a ((a, oe) :: pn)) (ih _ _ e1)
    · exact (cGs_ok (X := X.suite a ((a, oe) :: pn)) ih h).pt
    · rename_i x px n' pn' y py pos
      replace h := if_some h; obtain ⟨hq, h⟩ := h
      simp only [Bool.and_eq_true] at hq
      obtain ⟨h1, h2, h3, h4, h5⟩ := hq
      have h1 := of_decide_eq_true h1
      have h3 := of_decide_eq_true h3
      subst h1 h3
      replace h := map_some h; obtain ⟨tb, e1, rfl⟩ := h
      obtain ⟨i1, i2⟩ := o.isx _ (PySem.mem_of_lookup e1)
      exact tg_isx (o.bg h2) (o.gl h4) i1 (plainNm_ok h5).1 (fun c b e => i2 _ (PySem.mem_of_lookup e)) hz hfl hN hv hd hcd
    · cases h
theorem cHs_ok (o : XOk C c X) {nm : Str} {L : List Str} {i : Nat} {a : Addr} {cls : Value} {d : Option Addr} {oe : Obj} {pn : List (Addr × Obj)} (hz : Zc cls d oe) (hfl : ∃ vs, oe.data = .fields vs) (hN : X.N[i]? = some nm) (hv : Vis X.env.scope nm) (hd : (nm == ("__debug__" : Str)) = false) (hcd : (nm == ("__classdict__" : Str)) = false) :
    ∀ (sts : List Stmt) (hs : List (Option HG × HE)), (∀ h ∈ hs, ∀ f ∈ fldsOf h.2, ∀ c ∈ L, XfC X.K (He.ga X.K c) ∧ PySem.W.findIn X.K (.ref (He.ga X.K c)) f = some none) → cHs c nm sts = some hs → PSs (X.suite a ((a, oe) :: pn)) sts (TSu X.K a cls d L i hs)
  | [], hs, _, h => by
    rw [cHs] at h
    cases h
    exact su_nil (X := X.suite a ((a, oe) :: pn))
  | st :: r, hs, hno, h => by
    unfold cHs at h
    split at h
    · rename_i heq
      cases heq
    · rename_i e p heq
      cases heq
      replace h := map_some h; obtain ⟨y, e1, rfl⟩ := h
      exact su_ret (X := X.suite a ((a, oe) :: pn)) (cH_ok hz hfl hN hv hd hcd 20 (hno _ List.mem_cons_self) e1)
    · rename_i t e p p' r' heq
      cases heq
      replace h := bind_some h; obtain ⟨g, e1, h⟩ := h
      replace h := bind_some h; obtain ⟨y, e2, h⟩ := h
      replace h := map_some h; obtain ⟨hs', e3, rfl⟩ := h
      exact su_if (X := X.suite a ((a, oe) :: pn)) (cG_ok o hz hfl hN hv hd hcd 20 _ _ e1) (cH_ok hz hfl hN hv hd hcd 20 (hno _ List.mem_cons_self) e2) (cHs_ok o hz hfl hN hv hd hcd r hs' (fun h hm => hno h (List.mem_cons_of_mem _ hm)) e3)
    · cases h
theorem augAssign {i : Expr} (h : isSl i = false) : ∀ ov iv new, augStore i ov iv new = (do holding [new, ov, iv] (setItem ov iv new); release [new, ov, iv] []; pure .next) := by
  intro ov iv new
  cases i <;> first
    | rfl
    | (simp [isSl] at h)
theorem subAssign {o i : Expr} {tpos : Pos} {env : Env} (h : isSl i = false) : ∀ v, assign (.Subscript o i tpos) env v = (do
      let ov ← holding [v] (eval o env)
      let iv ← holding [v, ov] (eval i env)
      standAt tpos
      holding [v, ov, iv] (setItem ov iv v)
      release [v, ov, iv] []) := by
  intro v
  cases i <;> first
    | rfl
    | (simp [isSl] at h)
def FB (C : CF) (fu : Nat) (fB : CC → List Nat → List Stmt → Option (List S)) : Prop := ∀ (c : CC) (A : List Nat) (X : Cx) (W : WX) (sts : List Stmt) (is : List S), XOk C c X → SOk X W → fB c A sts = some is → PSs X sts (TSs X.K W C fu A is)
theorem stepS_ok {fE fT : CC → Expr → Option E} {fB : CC → List Nat → List Stmt → Option (List S)} (ih : ∀ (c : CC) (X : Cx) (W : WX), XOk C c X → Takes X W → FE X W C (fE c) ∧ FT X W C (fT c)) (hB : FB C fu fB) (o : XOk C c X) (so : SOk X W) {st : Stmt} {i : S} (h : stepS fE fT fB c A st = some i) : PS X st (TSt X.K W C fu A i) := by
  obtain ⟨hE, hT⟩ := ih c X W o so.tk
  have hNd : X.N.Nodup := by rw [o.N]; exact o.nd
  have loc : ∀ {x : Str}, locB c.sc x = true → X.env.scope.names.lookup x = some .local := fun h => by rw [o.sc]; exact locB_ok h
  have ix : ∀ {x : Str} {i : Nat}, idx? x c.N = some i → X.N[i]? = some x := fun h => by rw [o.N]; exact idx_ok h
  unfold stepS at h
  split at h
  · cases h; exact st_pass
  · cases h; exact st_brk
  · cases h; exact st_cont
  · cases h; exact st_retN
  · replace h := map_some h; obtain ⟨ie, e1, rfl⟩ := h
    exact st_ret (cRet_ok o hE e1)
  · replace h := if_some h; obtain ⟨hn, h⟩ := h
    replace h := map_some h; obtain ⟨ie, e1, rfl⟩ := h
    exact st_expr (hE _ _ e1) (notComp_sw hn _ _ _)
  · split at h
    · rename_i hq
      replace h := bind_some h; obtain ⟨k, e1, h⟩ := h
      replace h := if_some h; obtain ⟨hA, h⟩ := h
      replace h := map_some h; obtain ⟨ie, e2, rfl⟩ := h
      simp only [Bool.and_eq_true, Bool.not_eq_true'] at hq
      obtain ⟨⟨⟨hf, hl⟩, hline⟩, hany⟩ := hq
      unfold compX at e2
      split at e2
      · rename_i j hj
        cases e2
        obtain ⟨own, kk, r, it, cs, ie, rfl, hi, ok, hg, ht, he, hn⟩ := compVC_ok ih o hj
        exact st_setLcV o.calm hNd (ix e1) (loc hl) hA (sw_true (by rw [o.sc]; exact isFun_ok hf) (loc hl) hline hany) hi ok hg ht he (notSet_fold hn _)
      obtain ⟨own, kk, ss, it, cs, ie, rfl, hi, ok, hg, ht, he, hn⟩ := compC_ok ih o hE e2
      exact st_setLc o.calm hNd (ix e1) (loc hl) hA (sw_true (by rw [o.sc]; exact isFun_ok hf) (loc hl) hline hany) hi ok hg ht he (notSet_fold hn _)
    · replace h := if_some h; obtain ⟨hq, h⟩ := h
      replace h := bind_some h; obtain ⟨k, e1, h⟩ := h
      replace h := if_some h; obtain ⟨hA, h⟩ := h
      replace h := map_some h; obtain ⟨ie, e2, rfl⟩ := h
      exact st_set hNd (ix e1) (o.sto (by unfold CC.sto; rw [hq, Bool.or_true])) hA (hE _ _ e2) (sw_cell (by rw [o.sc]; exact (cel_ok hq).1))
  · replace h := if_some h; obtain ⟨hq, h⟩ := h
    rw [Bool.and_eq_true] at hq
    replace h := bind_some h; obtain ⟨k, e1, h⟩ := h
    replace h := if_some h; obtain ⟨hA, h⟩ := h
    replace h := map_some h; obtain ⟨ie, e2, rfl⟩ := h
    exact st_set hNd (ix e1) (o.sto hq.1) hA (hE _ _ e2) (notComp_sw hq.2 _ _ _)
  · rename_i x px y py kt pt a b k2 pt2 pos
    split at h
    · rename_i hq
      replace h := bind_some h; obtain ⟨i1, e1, h⟩ := h
      replace h := bind_some h; obtain ⟨i2, e2, h⟩ := h
      replace h := if_some h; obtain ⟨hA, h⟩ := h
      replace h := bind_some h; obtain ⟨ia, e3, h⟩ := h
      replace h := map_some h; obtain ⟨ib, e4, rfl⟩ := h
      unfold swOk at hq
      simp only [Bool.and_eq_true, Bool.not_eq_true', List.all_cons, List.all_nil, Bool.and_true, decide_eq_true_eq, List.map_cons, List.map_nil, List.nodup_cons, List.mem_cons, List.not_mem_nil, or_false, not_false_eq_true, List.head?_cons, Option.map_some, Option.getD_some] at hq
      obtain ⟨⟨⟨⟨⟨⟨hf, hl1, hl2⟩, _, hln⟩, hne, _⟩, hs1, hs2⟩, hk1⟩, hk2⟩ := hq
      have hij : i1 ≠ i2 := fun z => hne (by
        have a1 := ix e1
        have a2 := ix e2
        rw [z, a2] at a1
        exact (Option.some.inj a1).symm)
      exact st_par o.calm hNd (ix e1) (ix e2) hij (loc hl1) (loc hl2) hA (tl_cons (hE _ _ e3) (tl_cons (hE _ _ e4) tl_nil hs2) hs1) (sw2 (blockKind_ok (by rw [o.sc]; exact isFun_ok hf)) (loc hl1) (loc hl2) hln hne hs1 hs2 (by simpa using hk1) (by simpa using hk2)) rfl
    · replace h := if_some h; obtain ⟨hq, h⟩ := h
      rcases (Bool.or_eq_true _ _).mp hq with q | q
      · exact parUf_ok o hE q h
      rcases (Bool.or_eq_true _ _).mp q with q | q
      · exact parU_ok (x := x) (px := px) o hE (by simp) q h
      · exact parU_ok (x := y) (px := py) o hE (by simp) q h
  · rename_i x px y py z pz kt pt a b d k2 pt2 pos
    split at h
    · rename_i hq
      replace h := bind_some h; obtain ⟨i1, e1, h⟩ := h
      replace h := bind_some h; obtain ⟨i2, e2, h⟩ := h
      replace h := bind_some h; obtain ⟨i3, e5, h⟩ := h
      replace h := if_some h; obtain ⟨hA, h⟩ := h
      replace h := bind_some h; obtain ⟨ia, e3, h⟩ := h
      replace h := bind_some h; obtain ⟨ib, e4, h⟩ := h
      replace h := map_some h; obtain ⟨id, e6, rfl⟩ := h
      unfold swOk at hq
      simp only [Bool.and_eq_true, Bool.not_eq_true', List.all_cons, List.all_nil, Bool.and_true, decide_eq_true_eq, List.map_cons, List.map_nil, List.nodup_cons, List.mem_cons, List.not_mem_nil, or_false, not_false_eq_true, List.head?_cons, Option.map_some, Option.getD_some, not_or] at hq
      obtain ⟨⟨⟨⟨⟨⟨hf, hl1, hl2, hl3⟩, _, hln, hln2⟩, ⟨hne, hne2⟩, hne3, _⟩, hs1, hs2, hs3⟩, hk1⟩, hk2⟩ := hq
      have neq : ∀ {x y : Str} {i j : Nat}, x ≠ y → X.N[i]? = some x → X.N[j]? = some y → i ≠ j := fun hn a1 a2 z => hn (by
        rw [z, a2] at a1
        exact (Option.some.inj a1).symm)
      exact st_par3 o.calm hNd (ix e1) (ix e2) (ix e5) (neq hne (ix e1) (ix e2)) (neq hne2 (ix e1) (ix e5)) (neq hne3 (ix e2) (ix e5)) (loc hl1) (loc hl2) (loc hl3) hA (tl_cons (hE _ _ e3) (tl_cons (hE _ _ e4) (tl_cons (hE _ _ e6) tl_nil hs3) hs2) hs1)
        (sw3 (blockKind_ok (by rw [o.sc]; exact isFun_ok hf)) (loc hl1) (loc hl2) (loc hl3) hln hln2 hne hne2 hne3 hs1 hs2 hs3 (by simpa using hk1) (by simpa using hk2)) rfl
    · replace h := if_some h; obtain ⟨hq, h⟩ := h
      rcases (Bool.or_eq_true _ _).mp hq with q | q
      · exact parUf_ok o hE q h
      rcases (Bool.or_eq_true _ _).mp q with q | q
      · exact parU_ok (x := x) (px := px) o hE (by simp) q h
      · rcases (Bool.or_eq_true _ _).mp q with q | q
        · exact parU_ok (x := y) (px := py) o hE (by simp) q h
        · exact parU_ok (x := z) (px := pz) o hE (by simp) q h
  · replace h := if_some h; obtain ⟨hq, h⟩ := h
    rw [Bool.and_eq_true] at hq
    replace h := bind_some h; obtain ⟨t, e1, h⟩ := h
    replace h := map_some h; obtain ⟨ie, e2, rfl⟩ := h
    exact st_unp (hE _ _ e2) (cTg_ok o e1) (by unfold swapsWithSole; exact notComp_sw hq.1 _ _ _) (sw0 hq.2) rfl
  · split at h
    · cases h
    · rename_i hsl
      replace hsl := (Bool.not_eq_true _).mp hsl
      replace h := bind_some h; obtain ⟨r, e0, h⟩ := h
      replace h := bind_some h; obtain ⟨ie, e1, h⟩ := h
      replace h := map_some h; obtain ⟨ii, e2, rfl⟩ := h
      have n := o.slot e0
      obtain ⟨rn, hr⟩ := o.room
      split
      · exact st_dput hr n.at_ n.vis n.nd n.ncd (hE _ _ e1) (hE _ _ e2) (sw_sub _ _ _ _ _ _)
      · refine st_setix n.at_ n.vis n.nd n.ncd (hE _ _ e1) (hE _ _ e2) (subAssign hsl) ?_ rfl rfl
        unfold swapsWithSole
        exact sw_sub _ _ _ _ _ _
  · replace h := if_some h; obtain ⟨hl, h⟩ := h
    replace h := bind_some h; obtain ⟨k, e1, h⟩ := h
    replace h := if_some h; obtain ⟨hA, h⟩ := h
    replace h := bind_some h; obtain ⟨bo, e2, h⟩ := h
    replace h := bind_some h; obtain ⟨bo2, e3, h⟩ := h
    replace h := map_some h; obtain ⟨ie, e4, rfl⟩ := h
    have := bopOf_ok e2
    subst this
    split at e3
    · cases e3
      exact st_aug hNd (ix e1) (o.sto hl) hA (.inl rfl) (hE _ _ e4)
    · cases e3
      exact st_aug hNd (ix e1) (o.sto hl) hA (.inr rfl) (hE _ _ e4)
    · cases e3
  · replace h := bind_some h; obtain ⟨it, e1, h⟩ := h
    replace h := bind_some h; obtain ⟨ia, e2, h⟩ := h
    replace h := map_some h; obtain ⟨ib, e3, rfl⟩ := h
    exact st_ite (hT _ _ e1) (hB _ _ _ _ _ _ o so e2) (hB _ _ _ _ _ _ o so e3)
  · replace h := bind_some h; obtain ⟨src, e1, h⟩ := h
    replace h := bind_some h; obtain ⟨it, e2, h⟩ := h
    replace h := map_some h; obtain ⟨ib, e3, rfl⟩ := h
    obtain ⟨hi, hn⟩ := cSrc_ok o hE e1
    exact st_for so.own o.calm hi (cTg_ok o e2) (hB _ _ _ _ _ _ o so e3) (notSet_fold hn _)
  · replace h := bind_some h; obtain ⟨it, e1, h⟩ := h
    replace h := map_some h; obtain ⟨ib, e3, rfl⟩ := h
    exact st_while so.own (hT _ _ e1) (hB _ _ _ _ _ _ o so e3)
  · replace h := if_some h; obtain ⟨hq, h⟩ := h
    simp only [Bool.and_eq_true] at hq
    replace h := bind_some h; obtain ⟨ns, e1, h⟩ := h
    replace h := if_some h; obtain ⟨hns, h⟩ := h
    replace h := map_some h; obtain ⟨is, e2, rfl⟩ := h
    exact st_raise o.calm so.tk (o.cls _ (PySem.mem_of_lookup e1)).1 (o.gl hq.1.1) (plainNm_ok hq.1.2).1 hns.1 hns.2 (mapO_tl hE hq.2 e2) hq.2
  · split at h
    · cases h
    · rename_i hsl
      replace hsl := (Bool.not_eq_true _).mp hsl
      replace h := bind_some h; obtain ⟨r, e0, h⟩ := h
      replace h := bind_some h; obtain ⟨bo, e2, h⟩ := h
      replace h := bind_some h; obtain ⟨bo2, e3, h⟩ := h
      replace h := bind_some h; obtain ⟨ie, e4, h⟩ := h
      replace h := map_some h; obtain ⟨ii, e5, rfl⟩ := h
      have n := o.slot e0
      have := bopOf_ok e2
      subst this
      split at e3
      · cases e3
        exact st_augix n.at_ n.vis n.nd n.ncd (.inl rfl) (hE _ _ e4) (hE _ _ e5) (augAssign hsl)
      · cases e3
        exact st_augix n.at_ n.vis n.nd n.ncd (.inr rfl) (hE _ _ e4) (hE _ _ e5) (augAssign hsl)
      · cases e3
  · replace h := if_some h; obtain ⟨hq, h⟩ := h
    simp only [Bool.and_eq_true] at hq
    replace h := bind_some h; obtain ⟨k, e1, h⟩ := h
    replace h := if_some h; obtain ⟨hA, h⟩ := h
    replace h := bind_some h; obtain ⟨tb, e2, h⟩ := h
    replace h := bind_some h; obtain ⟨hs, e4, h⟩ := h
    replace h := map_some h; obtain ⟨ib, e5, rfl⟩ := h
    obtain ⟨ext1, ext2⟩ := o.ext _ (PySem.mem_of_lookup e2)
    refine st_try so.stk so.fr hNd (ix e1) (loc hq.1.2) ⟨o.gl hq.1.1.1, (plainNm_ok hq.1.1.2).1, .inl ext2⟩ so.tk hA (fun W' pn xe tk' own' => hB _ _ _ _ _ _ (o.tr pn xe) ⟨so.stk, so.fr, own', tk'⟩ e5) (fun a oe cls d pn hz hf => ?_) ext1
    refine cHs_ok o hz hf (ix e1) (.inl (loc hq.1.2)) (plainNm_ok hq.2).1 (plainNm_ok hq.2).2.1 _ _ (fun h hm f hf c hc => ?_) e4
    unfold okOf at hc
    obtain ⟨q, hq1, rfl⟩ := List.mem_map.mp hc
    have hq2 := (List.mem_filter.mp hq1).2
    rw [Bool.and_eq_true] at hq2
    have hq3 := hq2.2
    split at hq3
    · rename_i ns hns
      obtain ⟨ek, xf⟩ := o.cls _ (PySem.mem_of_lookup hns)
      exact ⟨xf, ek.no f (of_decide_eq_true (List.all_eq_true.mp (List.all_eq_true.mp hq3 h hm) f hf))⟩
    · cases hq3
  · cases h
theorem cB_ok : ∀ n : Nat, FB C fu (cB n)
  | 0 => fun c A X W sts is o so h => by cases h
  | n + 1 => fun c A X W sts is o so h => by
    rw [cB] at h
    have key : ∀ (sts : List Stmt) (is : List S), mapO (stepS (cET n).1 (cET n).2 (cB n) c A) sts = some is → PSs X sts (TSs X.K W C fu A is) := by
      intro sts
      induction sts with
      | nil =>
        intro is h
        cases h
        exact ss_nil
      | cons st sts ih =>
        intro is h
        replace h := bind_some h; obtain ⟨i, e1, h⟩ := h
        replace h := map_some h; obtain ⟨js, e2, rfl⟩ := h
        exact ss_cons (stepS_ok (cE_all n) (cB_ok n) o so e1) (ih js e2)
    exact key sts is h
end
end R

/-! A20: a program's defs, whole. -/
namespace R
open PySem PySem.Spec L2
open PyProof.Rows hiding St
structure PD where
  d : He.DefD
  N : List Str
  ps : List Str
  asg : List Nat
def fnScB (N ps : List Str) (sc : Scope) : Bool := isFun sc && !sc.isCoroutine && !sc.isGenerator && decide N.Nodup && decide (N.take ps.length = ps) && (ps.all fun x => match sc.names.lookup x with
  | some .local => true
  | some .cell => true
  | _ => false) && sc.names.all fun y => match y.2 with
  | .free => false
  | _ => true
theorem fnScB_ok {N ps : List Str} {sc : Scope} (h : fnScB N ps sc = true) : FnScope N ps sc := by
  unfold fnScB at h
  simp only [Bool.and_eq_true, Bool.not_eq_true', decide_eq_true_eq, List.all_eq_true] at h
  obtain ⟨⟨⟨⟨⟨⟨h1, h2⟩, h3⟩, h4⟩, h5⟩, h6⟩, h7⟩ := h
  refine ⟨isFun_ok h1, h2, h3, h4, h5, fun x hx => ?_, fun y hy e => ?_⟩
  · have := h6 x hx
    split at this
    · exact .inl (by assumption)
    · exact .inr (by assumption)
    · cases this
  · have := h7 y hy
    rw [e] at this
    cases this
/-- what all defs of a program have in common -/
structure PC where
  ds : List Str
  blt : List Str
  cls : List (Str × List Str)
  ext : List (Str × List (Str × Bool))
  ks : List (Str × Dat)
  tabs : List (Str × List (Str × Int))
  kw : List (Str × List Str)
  isx : List (Str × List (Str × Bool))
  dn : List (Str × List Str)
  vn : List (Str × List Str)
def PC.cc (p : PC) (pd : PD) : CC := ⟨pd.N, pd.d.scope, p.ds, pd.ps.length, p.blt, p.cls, p.ext, p.ks, p.tabs, p.kw, p.isx, (p.dn.lookup pd.d.at_.1).getD [], (p.vn.lookup pd.d.at_.1).getD [], fun _ => true⟩
def PD.A (pd : PD) : List Nat := pd.asg ++ (List.range pd.N.length).filter fun i => decide (pd.ps.length ≤ i)
def cFn (p : PC) (pd : PD) : Option FnD := if fnScB pd.N pd.ps pd.d.scope then (cB 40 (p.cc pd) pd.A pd.d.body).map fun is => ⟨pd.ps.length, pd.N.length, pd.asg, is⟩ else none
def cProg (p : PC) (pds : List PD) : Option (List FnD) := mapO (cFn p) pds
theorem mapO_at {α β : Type} {f : α → Option β} : ∀ {l : List α} {r : List β} {i : Nat} {x : α}, mapO f l = some r → l[i]? = some x → ∃ y, r[i]? = some y ∧ f x = some y
  | [], _, _, _, _, e => by simp at e
  | a :: l, r, i, x, h, e => by
    obtain ⟨b, e1, h⟩ := bind_some h
    obtain ⟨bs, e2, rfl⟩ := map_some h
    cases i with
    | zero =>
      simp at e
      subst e
      exact ⟨b, rfl, e1⟩
    | succ i => simpa using mapO_at (i := i) e2 (by simpa using e)
def BindOk (pd : PD) : Prop := ∀ (kV doc pm : Value) (an : Option Addr) (cdv ct : Value) (us : List Value), us.length = pd.ps.length → bindArgs (PySem.W.fnOf pd.d.name pd.d.qual pd.d.params pd.d.body pd.d.scope .none kV doc pm an cdv ct) ⟨us, []⟩ = pure (pd.ps.zip us)
/-- .. and by names alone -/
def KwOk (kw : List (Str × List Str)) (pd : PD) : Prop := ∀ q ∈ kw, q.1 = pd.d.at_.1 → q.2 = pd.ps ∧ ∀ (kV doc pm : Value) (an : Option Addr) (cdv ct : Value) (us : List Value), us.length = pd.ps.length → bindArgs (PySem.W.fnOf pd.d.name pd.d.qual pd.d.params pd.d.body pd.d.scope .none kV doc pm an cdv ct) ⟨[], pd.ps.zip us⟩ = pure (pd.ps.zip us)
/-- what the head tells of the program -/
structure Prg (P : Program) (w : World) (K : PySem.W.Frag) (mg : Str → Option Value) (base : Heap) (p : PC) (pds : List PD) : Prop where
  defs : ∀ (x : Str) (i : Nat), p.ds[i]? = some x → ∃ pd fa fd, pds[i]? = some pd ∧ mg x = some (.ref fa) ∧ FunD K pd.d.name pd.d.qual pd.d.params pd.d.body pd.d.scope [] [] fa fd ∧ BindOk pd ∧ KwOk p.kw pd ∧ pd.d.at_.1 = x
  blt : ∀ x ∈ p.blt, mg x = none
  cls : ∀ q ∈ p.cls, OexC K (He.ga K q.1) ∧ mg q.1 = some (.ref (He.ga K q.1)) ∧ (∀ f ∈ q.2, PySem.W.findIn K (.ref (He.ga K q.1)) f = some none) ∧ XfC K (He.ga K q.1) ∧
    ∃ fI fd ps, PySem.W.findIn K (.ref (He.ga K q.1)) "__init__" = some (some (.ref fI)) ∧ PySem.W.typeIn K (.ref fI) = some (.type "function") ∧ Binds K fd ps [] ∧ FnOk P w K mg base (L2.CX P w) 1 fI fd ps (spX K (He.ga K q.1) q.2)
  ext : ∀ q ∈ p.ext, (∀ r ∈ q.2, PySem.W.exmOne K (.ref (He.ga K r.1)) (.ref (He.ga K q.1)) = some r.2) ∧ mg q.1 = some (.ref (He.ga K q.1))
  ks : ∀ q ∈ p.ks, ∃ v u, mg q.1 = some u ∧ RelV v u ∧ ∀ H O, RepD K H O q.2 v
  tabs : ∀ q ∈ p.tabs, mg q.1 = some (.ref (He.ga K q.1)) ∧ ∃ es n, KDict K w (He.ga K q.1) es n ∧ entB es.toList q.2 = true
  isx : ∀ q ∈ p.isx, mg q.1 = some (.ref (He.ga K q.1)) ∧ ∀ r ∈ q.2, isxB K (He.ga K r.1) = true ∧ PySem.W.kitOne K (.ref (He.ga K r.1)) (.ref (He.ga K q.1)) = some r.2
theorem FunD.bindsK {K : PySem.W.Frag} {pd : PD} {f : Addr} {fd : FuncData} {kw : List (Str × List Str)} (F : FunD K pd.d.name pd.d.qual pd.d.params pd.d.body pd.d.scope [] [] f fd) (h : KwOk kw pd) {q : Str × List Str} (hq : q ∈ kw) (e : q.1 = pd.d.at_.1) : q.2 = pd.ps ∧ ∀ (s : Shared) (us : List Value), us.length = pd.ps.length → BindsTo s fd ⟨[], pd.ps.zip us⟩ (pd.ps.zip us) := by
  obtain ⟨oc, od, dV, kV, doc, pm, an, cdv, ct, osl, rfl, lk, hcd, hD, hK⟩ := F.ex
  obtain ⟨h1, h2⟩ := h q hq e
  refine ⟨h1, fun s us hl => ?_⟩
  rcases hD with ⟨_, rfl⟩ | ⟨e, _⟩
  · exact .of_eq (h2 kV doc pm an cdv ct us hl)
  · exact absurd rfl e
theorem A_ok {pd : PD} : ∀ j ∈ pd.A, j < pd.ps.length → j ∈ pd.asg := fun j hj hl => by
  unfold PD.A at hj
  rcases List.mem_append.mp hj with h | h
  · exact h
  · have := of_decide_eq_true (List.mem_filter.mp h).2
    omega
/-- every def is run by its IR -/
theorem prog_ok {P : Program} {w : World} {K : PySem.W.Frag} {mg : Str → Option Value} {base : Heap} {p : PC} {pds : List PD} {irs : List FnD} {fu : Nat} (h : Prg P w K mg base p pds) (hc : cProg p pds = some irs) : ∀ (n : Nat) (x : Str) (i : Nat), p.ds[i]? = some x →
    ∃ pd fa fd, pds[i]? = some pd ∧ mg x = some (.ref fa) ∧ PySem.W.keepIn K (.ref fa) = true ∧ Binds K fd pd.ps [] ∧ (FunD K pd.d.name pd.d.qual pd.d.params pd.d.body pd.d.scope [] [] fa fd ∧ (∀ s us, us.length = pd.ps.length → BindsTo s fd ⟨us, []⟩ (pd.ps.zip us)) ∧ ∀ q ∈ p.kw, q.1 = x → q.2 = pd.ps ∧ ∀ (s : Shared) (us : List Value), us.length = pd.ps.length → BindsTo s fd ⟨[], pd.ps.zip us⟩ (pd.ps.zip us)) ∧ FnOk P w K mg base (L2.CX P w) (n + 3) fa fd pd.ps (spOf K (callN irs fu n) i pd.ps.length)
  | 0, x, i, hx => by
    obtain ⟨pd, fa, fd, h1, h2, F, b, bk, bx⟩ := h.defs x i hx
    refine ⟨pd, fa, fd, h1, h2, F.kp, F.bindsN b, ⟨F, F.bindsA b, fun q hq e => FunD.bindsK F bk hq (e.trans bx.symm)⟩, fun vs H Q E q => ?_, fun A outer s H args us vs Q E hr he hb hv q => ?_⟩
    · obtain ⟨as, w, R, hl, _⟩ := q
      exact hl
    · obtain ⟨as, w, R, hl, _, _, _, z⟩ := q
      exact z.elim
  | n + 1, x, i, hx => by
    obtain ⟨pd, fa, fd, h1, h2, F, b, bk, bx⟩ := h.defs x i hx
    refine ⟨pd, fa, fd, h1, h2, F.kp, F.bindsN b, ⟨F, F.bindsA b, fun q hq e => FunD.bindsK F bk hq (e.trans bx.symm)⟩, ?_⟩
    obtain ⟨ir, e1, e2⟩ := mapO_at hc h1
    unfold cFn at e2
    obtain ⟨hS, e2⟩ := if_some e2
    obtain ⟨is, e3, rfl⟩ := map_some e2
    refine fn_of_ir (C' := callN irs fu n) (ir := ⟨pd.ps.length, pd.N.length, pd.asg, is⟩) (A := pd.A) (fu := fu) F (fnScB_ok hS) rfl rfl A_ok (fun as => ?_) fun cdv A' outer s H E hr => ?_
    · show (match irs[i]? with
        | some fd => runFn (callN irs fu n) fu fd as
        | none => .bad) = _
      rw [e1]
    · refine cB_ok 40 (p.cc pd) pd.A _ _ _ _ ⟨rfl, (fnScB_ok hS).nd, rfl, rfl, ⟨_, hr⟩, fun y j hy => ?_, h.blt, fun q hq => ?_, h.ext, fun _ _ => rfl, h.ks, fun q hq => ⟨(h.tabs q hq).1, (h.tabs q hq).2⟩, h.isx⟩ ⟨rfl, rfl, passes_of rfl, takes_of rfl rfl rfl rfl⟩ e3
      · obtain ⟨pd', fa', fd', g1, g2, g3, g4, ⟨_, _, gk⟩, g5⟩ := prog_ok h hc n y j hy
        refine ⟨fa', fd', pd'.ps, n + 3, g2, g3, g4, g5, hr, fun as hb => ?_, gk⟩
        cases n with
        | zero => exact absurd rfl hb
        | succ n =>
          obtain ⟨ir', f1, f2⟩ := mapO_at hc g1
          unfold cFn at f2
          obtain ⟨_, f2⟩ := if_some f2
          obtain ⟨is', f3, rfl⟩ := map_some f2
          have e : callN irs fu (n + 1) j as = runFn (callN irs fu n) fu ⟨pd'.ps.length, pd'.N.length, pd'.asg, is'⟩ as := by
            show (match irs[j]? with
              | some fd => runFn (callN irs fu n) fu fd as
              | none => .bad) = _
            rw [f1]
          rw [e, runFn] at hb
          by_cases hl : as.length = pd'.ps.length
          · exact hl
          · rw [if_neg hl] at hb
            exact absurd rfl hb
      · obtain ⟨c1, c2, c3, c4, fI, fdI, psI, c5, c6, c7, c8⟩ := h.cls q hq
        exact ⟨⟨c1, c2, c3, fI, fdI, psI, 1, c5, c6, c7, c8, hr.mono (by omega)⟩, c4⟩
end R

/-! A21: the head's facts; a law's end. -/
namespace R
open PySem PySem.Spec L2
open PyProof.Rows hiding St
/-! ### exception classes, by a look -/
def oexB (K : PySem.W.Frag) (C : Addr) : Bool := (match K.lookup C with
  | some ⟨.type "type", _, .cls cd, sl⟩ => (match cd.mro, sl.toList with
    | .ref C' :: bm, [_, _, _, _, some (.builtin n), _] => C' == C && n == "ValueError.__new__" && !cd.hasDel && cd.hasDict && PySem.HandSPX.refsVE bm
    | _, _ => false)
  | _ => false) && decide (PySem.W.findIn K (.ref C) "__setattr__" = some (some (.builtin "object.__setattr__"))) && decide (PySem.W.subIn K (.ref C) (.type "BaseException") = some true) && decide (PySem.W.typeIn K (.ref C) = some (.type "type")) && PySem.W.keepIn K (.ref C)
theorem oexB_ok {K : PySem.W.Frag} {C : Addr} (h : oexB K C = true) : OexC K C := by
  unfold oexB at h
  simp only [Bool.and_eq_true, decide_eq_true_eq] at h
  obtain ⟨⟨⟨⟨q, h1⟩, h2⟩, h3⟩, h4⟩ := h
  refine ⟨?_, h1, h2, h3, h4⟩
  split at q
  · rename_i dd cd sl ho
    split at q
    · rename_i C' bm k0 k1 k2 k3 n k5 hm hs
      simp only [Bool.and_eq_true, beq_iff_eq, Bool.not_eq_true'] at q
      obtain ⟨⟨⟨⟨rfl, rfl⟩, hdel⟩, hdc⟩, hv⟩ := q
      obtain ⟨nm, bs, mro, ns, qn, hd, sn, sub, ab, col, del⟩ := cd
      dsimp only at hm hdel hdc
      subst hm hdel hdc
      have hsl : sl = #[k0, k1, k2, k3, some (.builtin "ValueError.__new__"), k5] := by
        obtain ⟨l⟩ := sl
        simp only at hs
        rw [hs]
      subst hsl
      exact ⟨nm, qn, ns, bs, bm, sn, sub, ab, col, dd, k0, k1, k2, k3, k5, ho, hv⟩
    · cases q
  · cases q
/-- the facts of a class with the fields ns -/
def clsB (K : PySem.W.Frag) (q : Str × List Str) : Bool := oexB K (He.ga K q.1) && xfB K (He.ga K q.1) && (q.2.all fun f => decide (PySem.W.findIn K (.ref (He.ga K q.1)) f = some none)) && decide (PySem.W.nsIn K mainGlobals q.1 = some (some (.ref (He.ga K q.1)))) &&
  decide (PySem.W.findIn K (.ref (He.ga K q.1)) "__init__" = some (some (.ref (He.ma K (He.ga K q.1) "__init__")))) && decide (PySem.W.typeIn K (.ref (He.ma K (He.ga K q.1) "__init__")) = some (.type "function"))
def extB (K : PySem.W.Frag) (q : Str × List (Str × Bool)) : Bool := decide (PySem.W.nsIn K mainGlobals q.1 = some (some (.ref (He.ga K q.1)))) && q.2.all fun r => decide (PySem.W.exmOne K (.ref (He.ga K r.1)) (.ref (He.ga K q.1)) = some r.2)
def ksB (K : PySem.W.Frag) (q : Str × Dat) : Bool := match PySem.W.nsIn K mainGlobals q.1, q.2 with
  | some (some (.int j _)), .int i => decide (j = i)
  | some (some (.str y _)), .str z => decide (y = z)
  | some (some (.bool y)), .bl z => decide (y = z)
  | some (some .none), .non => true
  | _, _ => false
/-- a dict of the top: its entries -/
def tabB (K : PySem.W.Frag) (q : Str × List (Str × Int)) : Bool := decide (PySem.W.nsIn K mainGlobals q.1 = some (some (.ref (He.ga K q.1)))) && (match K.lookup (He.ga K q.1) with
  | some ⟨_, _, .dict es _, _⟩ => entB es.toList q.2
  | _ => false)
def isxEB (K : PySem.W.Frag) (q : Str × List (Str × Bool)) : Bool := decide (PySem.W.nsIn K mainGlobals q.1 = some (some (.ref (He.ga K q.1)))) && q.2.all fun r => isxB K (He.ga K r.1) && decide (PySem.W.kitOne K (.ref (He.ga K r.1)) (.ref (He.ga K q.1)) = some r.2)
/-- __init__ keeps its arguments -/
def initB (pd : PD) (ns : List Str) : Bool := match pd.d.body with
  | [.Assign [.Attribute (.Name sf _) f _] (.Name f2 _) _] => decide (f = f2 ∧ ns = [f] ∧ pd.ps = [sf, f]) && fnScB [sf, f] [sf, f] pd.d.scope && visB pd.d.scope sf && visB pd.d.scope f && plainNm sf && plainNm f
  | [.Assign [.Attribute (.Name sf _) f _] (.Name f2 _) _, .Assign [.Attribute (.Name sf2 _) g _] (.Name g2 _) _] => decide (f = f2 ∧ sf = sf2 ∧ g = g2 ∧ ns = [f, g] ∧ pd.ps = [sf, f, g]) && fnScB [sf, f, g] [sf, f, g] pd.d.scope && visB pd.d.scope sf && visB pd.d.scope f && visB pd.d.scope g && plainNm sf && plainNm f && plainNm g
  | _ => false
theorem initB_ok {P : Program} {w : World} {K : PySem.W.Frag} {mg : Str → Option Value} {base : Heap} {pd : PD} {ns : List Str} {fI Cl : Addr} {fd : FuncData} (h : initB pd ns = true) (F : FunD K pd.d.name pd.d.qual pd.d.params pd.d.body pd.d.scope [] [] fI fd) : FnOk P w K mg base (L2.CX P w) 1 fI fd pd.ps (spX K Cl ns) := by
  obtain ⟨⟨at_, name, qual, params, body, scope, dfl, kwd⟩, N, ps, asg⟩ := pd
  unfold initB at h
  dsimp only at h F ⊢
  split at h
  · simp only [Bool.and_eq_true, decide_eq_true_eq] at h
    obtain ⟨⟨⟨⟨⟨⟨rfl, rfl, rfl⟩, hS⟩, v0⟩, v1⟩, p0⟩, p1⟩ := h
    exact init1 F (fnScB_ok hS) (visB_ok v0) (visB_ok v1) (plainNm_ok p0).1 (plainNm_ok p0).2.1 (plainNm_ok p1).1 (plainNm_ok p1).2.1
  · simp only [Bool.and_eq_true, decide_eq_true_eq] at h
    obtain ⟨⟨⟨⟨⟨⟨⟨⟨rfl, rfl, rfl, rfl, rfl⟩, hS⟩, v0⟩, v1⟩, v2⟩, p0⟩, p1⟩, p2⟩ := h
    exact init2 F (fnScB_ok hS) (visB_ok v0) (visB_ok v1) (visB_ok v2) (plainNm_ok p0).1 (plainNm_ok p0).2.1 (plainNm_ok p1).1 (plainNm_ok p1).2.1 (plainNm_ok p2).1 (plainNm_ok p2).2.1
  · cases h
/-! ### the Hook -/
def faL (p : PC) : List He.Fa := p.ds.map .glo ++ p.blt.map .free
def fnL (pds inits : List PD) : List He.DefD := pds.map (·.d) ++ inits.map (·.d)
def exB (p : PC) (K : PySem.W.Frag) : Bool := p.cls.all (clsB K) && (p.ext.all (extB K) && (p.ks.all (ksB K) && (p.tabs.all (tabB K) && p.isx.all (isxEB K))))
abbrev AlR : Type := He.AlD × Bool × List (Option (List (Option (Str × Int))))
def tabsO (p : PC) (K : PySem.W.Frag) : List (Option (List (Option (Str × Int)))) := p.tabs.map fun q => He.dicW K (He.ga K q.1)
def tabsV (p : PC) (w : World) : List (Option (List (Option (Str × Int)))) := p.tabs.map fun q => some (He.keysIn w.params (q.2.map Prod.fst))
def obsR (p : PC) (pds inits : List PD) (g : Addr → Option Obj) : AlR := (He.obsD (faL p) (fnL pds inits) (He.frG g (He.asD g 4)), exB p (He.frG g (He.asD g 4)), tabsO p (He.frG g (He.asD g 4)))
structure SaysR (p : PC) (pds inits : List PD) (w : World) (K : PySem.W.Frag) : Prop where
  d : He.SaysD (faL p) (fnL pds inits) K
  x : exB p K = true
  t : tabsO p K = tabsV p w
def hookR (p : PC) (pds inits : List PD) : PySem.W.Hook where
  α := AlR
  obs := fun s => obsR p pds inits s.heap.get?
  val := fun w => (He.valD (fnL pds inits), true, tabsV p w)
  says := fun w h => ∃ K : PySem.W.Frag, K.In h ∧ SaysR p pds inits w K
  of := fun _ _ e => ⟨_, He.frG_in, congrArg (fun z : AlR => z.1) e, congrArg (fun z : AlR => z.2.1) e, congrArg (fun z : AlR => z.2.2) e⟩
  keeps := fun _ _ _ ⟨K, hK, c⟩ k => ⟨K, PySem.W.Frag.In.keeps hK k, c⟩
theorem obsR_eq {p : PC} {pds inits : List PD} (s : PySem.W.SharedT) : obsR p pds inits (HandSHeadRun.getT s) = (hookR p pds inits).obs s.abs := by
  have e : HandSHeadRun.getT s = s.abs.heap.get? := funext (HandSHeadRun.getT_eq s)
  rw [e]
  rfl
/-- defs' names, and where their data stand -/
def AllB (l : List PD) : Prop := ∀ (i : Nat) (pd : PD), l[i]? = some pd → BindOk pd
theorem allB_nil : AllB [] := fun i pd h => by simp at h
theorem allB_cons {pd : PD} {l : List PD} (h : BindOk pd) (r : AllB l) : AllB (pd :: l) := fun i q e => by
  cases i with
  | zero => simp at e; rw [← e]; exact h
  | succ i => exact r i q (by simpa using e)
/-- .. and their calls by names -/
def AllK (kw : List (Str × List Str)) (l : List PD) : Prop := ∀ (i : Nat) (pd : PD), l[i]? = some pd → KwOk kw pd
theorem allK_nil {kw : List (Str × List Str)} : AllK kw [] := fun i pd h => by simp at h
theorem allK_cons {kw : List (Str × List Str)} {pd : PD} {l : List PD} (h : KwOk kw pd) (r : AllK kw l) : AllK kw (pd :: l) := fun i q e => by
  cases i with
  | zero => simp at e; rw [← e]; exact h
  | succ i => exact r i q (by simpa using e)
theorem kwOk_no {kw : List (Str × List Str)} {pd : PD} (h : (kw.all fun q => !decide (q.1 = pd.d.at_.1)) = true) : KwOk kw pd := fun q hq e => by
  have := List.all_eq_true.mp h q hq
  simp [e] at this
theorem kwOk_one {kw : List (Str × List Str)} {pd : PD} (h : (kw.all fun q => !decide (q.1 = pd.d.at_.1) || decide (q.2 = pd.ps)) = true)
    (hb : ∀ (kV doc pm : Value) (an : Option Addr) (cdv ct : Value) (us : List Value), us.length = pd.ps.length → bindArgs (PySem.W.fnOf pd.d.name pd.d.qual pd.d.params pd.d.body pd.d.scope .none kV doc pm an cdv ct) ⟨[], pd.ps.zip us⟩ = pure (pd.ps.zip us)) : KwOk kw pd := fun q hq e => by
  have := List.all_eq_true.mp h q hq
  simp [e] at this
  exact ⟨this, hb⟩
/-- the data fit together -/
def fitB (p : PC) (pds inits : List PD) : Bool := decide (pds.map (·.d.at_) = p.ds.map fun x => (x, none)) && decide (inits.map (·.d.at_) = p.cls.map fun q => (q.1, some ("__init__" : Str))) && ((p.cls.zip inits).all fun q => initB q.2 q.1.2) && ((pds ++ inits).all fun pd => pd.d.dfl.isEmpty && pd.d.kwd.isEmpty)
theorem prg_of {P : Program} {w : World} {K : PySem.W.Frag} {h : Heap} {mg : Str → Option Value} {p : PC} {pds inits : List PD} (X : K.In h) (G : h.Ns mainGlobals mg) (c : SaysR p pds inits w K) (hb : AllB pds) (hbi : AllB inits) (hkw : AllK p.kw pds) (hf : fitB p pds inits = true) (base : Heap) : Prg P w K mg base p pds := by
  unfold fitB at hf
  simp only [Bool.and_eq_true, decide_eq_true_eq] at hf
  obtain ⟨⟨⟨hf1, hf2⟩, hf3⟩, hf4⟩ := hf
  have hx := c.x
  unfold exB at hx
  simp only [Bool.and_eq_true] at hx
  obtain ⟨hx1, hx2, hx3, hx4, hx5⟩ := hx
  have fun_ : ∀ pd ∈ pds ++ inits, ∃ fd, FunD K pd.d.name pd.d.qual pd.d.params pd.d.body pd.d.scope [] [] (He.fAd K pd.d.at_) fd := fun pd hp => by
    have hm : pd.d ∈ fnL pds inits := by
      unfold fnL
      rw [← List.map_append]
      exact List.mem_map.mpr ⟨pd, hp, rfl⟩
    obtain ⟨fd, F⟩ := He.SaysD.defs c.d hm
    have := List.all_eq_true.mp hf4 pd hp
    rw [Bool.and_eq_true] at this
    have e1 : pd.d.dvs K = [] := by
      unfold He.DefD.dvs
      rw [List.isEmpty_iff.mp this.1]
      rfl
    have e2 : pd.d.kws K = [] := by
      unfold He.DefD.kws
      rw [List.isEmpty_iff.mp this.2]
      rfl
    rw [e1, e2] at F
    exact ⟨fd, F⟩
  refine ⟨fun x i hx => ?_, fun x hx => ?_, fun q hq => ?_, fun q hq => ?_, fun q hq => ?_, fun q hq => ?_, fun q hq => ?_⟩
  · have e : (pds.map (·.d.at_))[i]? = some (x, none) := by rw [hf1, List.getElem?_map, hx]; rfl
    rw [List.getElem?_map] at e
    cases ep : pds[i]? with
    | none => rw [ep] at e; cases e
    | some pd =>
      rw [ep] at e
      have e' : pd.d.at_ = (x, none) := Option.some.inj e
      obtain ⟨fd, F⟩ := fun_ pd (List.mem_append_left _ (List.mem_of_getElem? ep))
      rw [e'] at F
      refine ⟨pd, He.ga K x, fd, rfl, ?_, F, hb i pd ep, hkw i pd ep, by rw [e']⟩
      exact He.glo_ok X G (He.SaysD.facts c.d (f := .glo x) (List.mem_append_left _ (List.mem_map.mpr ⟨x, List.mem_of_getElem? hx, rfl⟩)))
  · exact He.free_ok X G (He.SaysD.facts c.d (f := .free x) (List.mem_append_right _ (List.mem_map.mpr ⟨x, hx, rfl⟩)))
  · have hq1 := List.all_eq_true.mp hx1 q hq
    unfold clsB at hq1
    simp only [Bool.and_eq_true, decide_eq_true_eq, List.all_eq_true] at hq1
    obtain ⟨⟨⟨⟨⟨c1, c2⟩, c3⟩, c4⟩, c5⟩, c6⟩ := hq1
    obtain ⟨i, hi, ei⟩ := List.mem_iff_getElem.mp hq
    have e0 : p.cls[i]? = some q := by rw [List.getElem?_eq_getElem hi, ei]
    have e : (inits.map (·.d.at_))[i]? = some (q.1, some ("__init__" : Str)) := by rw [hf2, List.getElem?_map, e0]; rfl
    rw [List.getElem?_map] at e
    cases ep : inits[i]? with
    | none => rw [ep] at e; cases e
    | some pd =>
      rw [ep] at e
      have e' : pd.d.at_ = (q.1, some ("__init__" : Str)) := Option.some.inj e
      obtain ⟨fd, F⟩ := fun_ pd (List.mem_append_right _ (List.mem_of_getElem? ep))
      rw [e'] at F
      have hz : (q, pd) ∈ p.cls.zip inits := by
        refine List.mem_of_getElem? (i := i) ?_
        rw [List.getElem?_zip_eq_some]
        exact ⟨e0, ep⟩
      have hI := List.all_eq_true.mp hf3 (q, pd) hz
      exact ⟨oexB_ok c1, PySem.W.mg_of X G c4, c3, xfB_ok c2, _, fd, pd.ps, c5, c6, F.bindsN (hbi i pd ep), initB_ok hI F⟩
  · have hq1 := List.all_eq_true.mp hx2 q hq
    unfold extB at hq1
    simp only [Bool.and_eq_true, decide_eq_true_eq, List.all_eq_true] at hq1
    exact ⟨hq1.2, PySem.W.mg_of X G hq1.1⟩
  · have hq1 := List.all_eq_true.mp hx3 q hq
    unfold ksB at hq1
    split at hq1
    · rename_i j t i e1 e2
      have := of_decide_eq_true hq1
      subst this
      exact ⟨.int j, .int j t, PySem.W.mg_of X G e1, ⟨t, rfl⟩, fun H O => by rw [e2, RepD]⟩
    · rename_i y t z e1 e2
      have := of_decide_eq_true hq1
      subst this
      exact ⟨.str y, .str y t, PySem.W.mg_of X G e1, ⟨t, rfl⟩, fun H O => by rw [e2, RepD]⟩
    · rename_i y z e1 e2
      have := of_decide_eq_true hq1
      subst this
      exact ⟨.bl y, .bool y, PySem.W.mg_of X G e1, rfl, fun H O => by rw [e2, RepD]⟩
    · rename_i e1 e2
      exact ⟨.non, .none, PySem.W.mg_of X G e1, rfl, fun H O => by rw [e2, RepD]⟩
    · cases hq1
  · have hq1 := List.all_eq_true.mp hx4 q hq
    unfold tabB at hq1
    simp only [Bool.and_eq_true, decide_eq_true_eq] at hq1
    obtain ⟨t1, t2⟩ := hq1
    have ht : He.dicW K (He.ga K q.1) = some (He.keysIn w.params (q.2.map Prod.fst)) := List.map_inj_left.mp c.t q hq
    obtain ⟨es, n, kd⟩ := He.dicW_ok ht
    refine ⟨PySem.W.mg_of X G t1, es, n, kd, ?_⟩
    rw [kd.at_] at t2
    exact t2
  · have hq1 := List.all_eq_true.mp hx5 q hq
    unfold isxEB at hq1
    simp only [Bool.and_eq_true, decide_eq_true_eq, List.all_eq_true] at hq1
    exact ⟨PySem.W.mg_of X G hq1.1, hq1.2⟩
/-! ### the end -/
/-- nothing leaves: told so -/
theorem FnOk.out {P : Program} {w : World} {K : PySem.W.Frag} {mg : Str → Option Value} {base : Heap} {k : Nat} {f : Addr} {fd : FuncData} {ps : List Str} {sp : Sp} (F : FnOk P w K mg base (L2.CX P w) k f fd ps sp) : FnOk P w K mg base CX0 k f fd ps (fun vs H Q _ => sp vs H Q fun _ _ _ => False) where
  len := fun vs H Q E h => F.len vs H Q _ h
  run := fun A outer s H args us vs Q E hr he hb hv hs => codeAny_mono (F.run A outer s H args us vs Q _ hr he hb hv hs) fun r s' h => by
    cases r with
    | ok fl => cases fl <;> exact h
    | error e =>
      obtain ⟨_, _, _, _, _, _, _, _, _, _, _, _, z⟩ := h
      exact z.elim
theorem scr_ints {K : PySem.W.Frag} {H : Hp} {O : List Addr} : ∀ ns : List Int, RepDs K H O (ns.map Dat.int) (ns.map V.int)
  | [] => by rw [List.map_nil, List.map_nil, RepDs]
  | n :: ns => by
    rw [List.map_cons, List.map_cons, RepDs]
    exact ⟨_, _, rfl, by rw [RepD], scr_ints ns⟩
/-- the law's def keeps its promise -/
theorem law_sp {K : PySem.W.Frag} {C : CF} {i : Nat} {H : Hp} {a : Addr} {ns : List Int} (hO : Only H) (hS : SqL K H a (ns.map V.int)) (h : ∃ os, C i [.d (.scr (ns.map .int))] = .ok (.d (.bl true)) os) : spOf K C i 1 [.ref a] H (fun v _ => v = .bl true) fun _ _ _ => False := by
  obtain ⟨os, e⟩ := h
  refine ⟨[.d (.scr (ns.map .int))], [], [], rfl, ?_, List.nodup_nil, fun b hb => (by cases hb), ?_⟩
  · rw [RepPs]
    refine ⟨.ref a, [], [], [], rfl, rfl, ?_, by rw [RepPs]; exact ⟨rfl, rfl⟩⟩
    rw [RepP, RepD]
    refine ⟨rfl, a, _, rfl, ?_, scr_ints ns⟩
    rcases hS with hS | hS
    · rcases hS with hS | ⟨o, hS⟩
      · rcases hO a with z | ⟨o, xs, z⟩
        · rw [z] at hS; cases hS
        · rw [z] at hS; cases hS
      · exact .inl ⟨o, hS⟩
    · exact .inr hS
  · rw [e]
    intro v H' w' wv _ rv _ _ _
    rw [RepP, RepD] at rv
    exact rv.2
theorem law_F {P : Program} {p : PC} {pds inits : List PD} {irs : List FnD} {fu n i k : Nat} {x : Str} {pd : PD} (hc : cProg p pds = some irs) (hb : AllB pds) (hbi : AllB inits) (hkw : AllK p.kw pds) (hf : fitB p pds inits = true) (hx : p.ds[i]? = some ("law" : Str)) (hpd : pds[i]? = some pd) (hps : pd.ps = [x]) (hk : k = n + 3)
    (law : ∀ ns : List Int, ns.length ≤ 63 → ∃ os, callN irs fu n i [.d (.scr (ns.map .int))] = .ok (.d (.bl true)) os) (w : World) (mg : Str → Option Value) (fa : Addr) (h : Heap) (Y : (hookR p pds inits).says w h) (G : h.Ns mainGlobals mg) (hmg : mg ("law" : Str) = some (.ref fa)) :
    ∃ (K : PySem.W.Frag) (fd : FuncData) (sp : Sp), K.In h ∧ (∀ (s : Shared) (u : Value), BindsTo s fd ⟨[u], []⟩ [(x, u)]) ∧ (∀ (H : Hp) (a : Addr) (ns : List Int), ns.length ≤ 63 → Only H → SqL K H a (ns.map V.int) → sp [.ref a] H (fun v _ => v = .bl true) fun _ _ _ => False) ∧
      ∀ base : Heap, K.In base → base.Ns mainGlobals mg → FnOk P w K mg base CX0 k fa fd [x] sp := by
  subst hk
  obtain ⟨K, KX, c⟩ := Y
  have pr : ∀ base, _ := fun base => prog_ok (fu := fu) (prg_of (P := P) (w := w) KX G c hb hbi hkw hf base) hc n "law" i hx
  obtain ⟨pd0, fa0, fd0, q1, q2, q3, q4, ⟨F0, q5, _⟩, q6⟩ := pr h
  rw [hmg] at q2
  cases q2
  rw [hpd] at q1
  cases q1
  refine ⟨K, fd0, fun vs H Q _ => spOf K (callN irs fu n) i pd.ps.length vs H Q fun _ _ _ => False, KX, fun s u => ?_, fun H a ns hl hO hS => ?_, fun base hB hG => ?_⟩
  · have := q5 s [u] (by rw [hps]; rfl)
    rw [hps] at this
    exact this
  · rw [hps]
    exact law_sp hO hS (law ns hl)
  · obtain ⟨pd1, fa1, fd1, r1, r2, r3, r4, ⟨F1, r5, _⟩, r6⟩ := pr base
    rw [hmg] at r2
    cases r2
    rw [hpd] at r1
    cases r1
    have e : fd1 = fd0 := by
      obtain ⟨_, _, _, _, _, _, _, _, _, _, _, l0, _⟩ := F0.ex
      obtain ⟨_, _, _, _, _, _, _, _, _, _, _, l1, _⟩ := F1.ex
      rw [l0] at l1
      injection l1 with l1
      injection l1 with _ _ l1 _
      injection l1 with l1
      exact l1.symm
    subst e
    rw [hps] at r6
    rw [hps]
    exact FnOk.out r6
end R

/-! B1: the evaluator's steps as rules for simp. -/
namespace R
open PySem PySem.Spec L2
open PyProof.Rows hiding St
section
variable {C : CF} {σ : Sto} {fu : Nat}
@[simp] theorem ev_lit (x : Dat) : evalE C (.lit x) σ = .ok (.d x) σ := by rw [evalE] <;> rfl
@[simp] theorem ev_get (r : Nat) : evalE C (.get r) σ = (match σ[r]? with
    | some (some (.d x)) => .ok (.d x) σ
    | some (some p) => .ok (.d p.frz) (σ.set r (some (.d p.frz)))
    | _ => .bad) := by rw [evalE] <;> rfl
@[simp] theorem ev_mov (r : Nat) : evalE C (.mov r) σ = (match σ[r]? with
    | some (some p) => .ok p (σ.set r none)
    | _ => .bad) := by rw [evalE] <;> rfl
@[simp] theorem ev_vw (r : Nat) : evalE C (.vw r) σ = (match σ[r]? with
    | some (some p) => (match vwP p with
      | some x => .ok (.d x) σ
      | none => (match p with
        | .lst xs => .ok (.d (.lst (frzs xs))) (σ.set r (some (.lst (thawL xs))))
        | _ => .bad))
    | _ => .bad) := by rw [evalE] <;> rfl
@[simp] theorem ev_lend (r : Nat) : evalE C (.lend r) σ = (match σ[r]? with
    | some (some _) => .ok (.d .non) σ
    | _ => .bad) := by rw [evalE] <;> rfl
@[simp] theorem ev_idxv (r : Nat) (i : E) : evalE C (.idxv r i) σ = (match σ[r]? with
    | some (some _) => (evalE C i σ).bind fun k σ1 =>
      match σ1[r]? with
      | some (some p) => (match idxP p k.frz with
        | some x => .ok (.d x) σ1
        | none => (match p with
          | .lst xs => (match idxP (.lst (thawL xs)) k.frz with
            | some x => .ok (.d x) (σ1.set r (some (.lst (thawL xs))))
            | none => .bad)
          | _ => .bad))
      | _ => .bad
    | _ => .bad) := by rw [evalE] <;> rfl
@[simp] theorem ev_idx (b i : E) : evalE C (.idx b i) σ = (evalE C b σ).bind fun p σ1 => (evalE C i σ1).bind fun k σ2 => optR ((idxD p.frz k.frz).map .d) σ2 := by rw [evalE] <;> rfl
@[simp] theorem ev_sl (b : E) (lo hi : Option E) : evalE C (.sl b lo hi) σ = (evalE C b σ).bind fun p σ1 => (evalO C lo σ1).bind fun l σ2 => (evalO C hi σ2).bind fun h σ3 => optR (slD p.frz l h) σ3 := by rw [evalE] <;> rfl
@[simp] theorem ev_slv (r : Nat) (lo hi : Option E) : evalE C (.slv r lo hi) σ = (match σ[r]? with
    | some (some _) => (evalO C lo σ).bind fun l σ2 => (evalO C hi σ2).bind fun h σ3 =>
      match σ3[r]? with
      | some (some p) => (match vwP p with
        | some x => optR (slD x l h) σ3
        | none => .bad)
      | _ => .bad
    | _ => .bad) := by rw [evalE] <;> rfl
@[simp] theorem ev_revs (b : E) : evalE C (.revs b) σ = (evalE C b σ).bind fun p σ1 => optR (revD p.frz) σ1 := by rw [evalE] <;> rfl
@[simp] theorem ev_tup (es : List E) : evalE C (.tup es) σ = (evalEs C es σ).bind fun ps σ1 => if ps.length ≤ sizeLine then .ok (mkTup ps) σ1 else .bad := by rw [evalE] <;> rfl
@[simp] theorem ev_lst (es : List E) : evalE C (.lst es) σ = (evalEs C es σ).bind fun ps σ1 => if ps.length ≤ sizeLine then .ok (.lst ps) σ1 else .bad := by rw [evalE] <;> rfl
@[simp] theorem ev_bin (op : Bop) (a b : E) : evalE C (.bin op a b) σ = (evalE C a σ).bind fun p σ1 => (evalE C b σ1).bind fun q σ2 => optR (binD op p.frz q.frz) σ2 := by rw [evalE] <;> rfl
@[simp] theorem ev_neg (a : E) : evalE C (.neg a) σ = (evalE C a σ).bind fun p σ1 =>
    match p.frz with
    | .int i => .ok (.d (.int (-i))) σ1
    | _ => .bad := by rw [evalE] <;> rfl
@[simp] theorem ev_not (a : E) : evalE C (.not a) σ = (evalE C a σ).bind fun p σ1 => (optR (truO p.frz) σ1).bind fun b σ2 => .ok (.d (.bl (!b))) σ2 := by rw [evalE] <;> rfl
@[simp] theorem ev_and (a b : E) : evalE C (.and a b) σ = (evalE C a σ).bind fun p σ1 => (optR (truO p.frz) σ1).bind fun k σ2 => if k then evalE C b σ2 else .ok (.d p.frz) σ2 := by rw [evalE] <;> rfl
@[simp] theorem ev_or (a b : E) : evalE C (.or a b) σ = (evalE C a σ).bind fun p σ1 => (optR (truO p.frz) σ1).bind fun k σ2 => if k then .ok (.d p.frz) σ2 else evalE C b σ2 := by rw [evalE] <;> rfl
@[simp] theorem ev_ite (c a b : E) : evalE C (.ite c a b) σ = (evalE C c σ).bind fun p σ1 => (optR (truO p.frz) σ1).bind fun k σ2 => if k then evalE C a σ2 else evalE C b σ2 := by rw [evalE] <;> rfl
@[simp] theorem ev_cmp (op : Cop) (a b : E) : evalE C (.cmp op a b) σ = (evalE C a σ).bind fun p σ1 => (evalE C b σ1).bind fun q σ2 => optR ((cmpD op p.frz q.frz).map fun k => .d (.bl k)) σ2 := by rw [evalE] <;> rfl
@[simp] theorem ev_chain (op op' : Cop) (a b c : E) : evalE C (.chain op op' a b c) σ = (evalE C a σ).bind fun p σ1 => (evalE C b σ1).bind fun q σ2 =>
    match cmpD op p.frz q.frz with
    | some true => (evalE C c σ2).bind fun r σ3 => optR ((cmpD op' q.frz r.frz).map fun k => .d (.bl k)) σ3
    | some false => .ok (.d (.bl false)) σ2
    | none => .bad := by rw [evalE] <;> rfl
@[simp] theorem ev_chain3 (op op' op2 : Cop) (a b c e : E) : evalE C (.chain3 op op' op2 a b c e) σ = (evalE C a σ).bind fun p σ1 => (evalE C b σ1).bind fun q σ2 =>
    match cmpD op p.frz q.frz with
    | some true => (evalE C c σ2).bind fun r σ3 => (match cmpD op' q.frz r.frz with
      | some true => (evalE C e σ3).bind fun t σ4 => optR ((cmpD op2 r.frz t.frz).map fun k => .d (.bl k)) σ4
      | some false => .ok (.d (.bl false)) σ3
      | none => .bad)
    | some false => .ok (.d (.bl false)) σ2
    | none => .bad := by rw [evalE] <;> rfl
@[simp] theorem ev_rng (t : Bool) (es : List E) : evalE C (.rng t es) σ = (evalEs C es σ).bind fun ps σ1 => optR (rngP t (frzs ps)) σ1 := by rw [evalE] <;> rfl
@[simp] theorem ev_kin (no : Bool) (e : E) (kvs : List (Str × Int)) : evalE C (.kin no e kvs) σ = (evalE C e σ).bind fun p σ1 => optR (kinD no kvs p.frz) σ1 := by rw [evalE] <;> rfl
@[simp] theorem ev_kat (kvs : List (Str × Int)) (e : E) : evalE C (.kat kvs e) σ = (evalE C e σ).bind fun p σ1 => optR (katD kvs p.frz) σ1 := by rw [evalE] <;> rfl
@[simp] theorem ev_dnew (t : Bool) : evalE C (.dnew t) σ = .ok (.dic t [] []) σ := by rw [evalE] <;> rfl
@[simp] theorem ev_din (no : Bool) (e : E) (r : Nat) : evalE C (.din no e r) σ = (evalE C e σ).bind fun p σ1 => match σ1[r]? with
    | some (some q) => optR (dinP no p.frz q) σ1
    | _ => .bad := by rw [evalE] <;> rfl
@[simp] theorem ev_dget (r : Nat) (e : E) : evalE C (.dget r e) σ = (match σ[r]? with
    | some (some _) => (evalE C e σ).bind fun p σ1 => (match σ1[r]? with
      | some (some q) => optR (dgetP p.frz q) σ1
      | _ => .bad)
    | _ => .bad) := by rw [evalE] <;> rfl
@[simp] theorem ev_call (f : Nat) (es : List E) : evalE C (.call f es) σ = (evalEs C es σ).bind fun ps σ1 =>
    match takeL es ps σ1 with
    | some (as, σ2) => (match C f as with
      | .ok v as' => .ok v (giveL σ1 es as' σ2)
      | .exc c fs as' => .exc c fs (giveL σ1 es as' σ2)
      | .bad => .bad)
    | none => .bad := by rw [evalE] <;> rfl
@[simp] theorem ev_bi (f : Bi) (es : List E) : evalE C (.bi f es) σ = (evalEs C es σ).bind fun ps σ1 => optR (biD f (frzs ps)) σ1 := by rw [evalE] <;> rfl
@[simp] theorem ev_isi (a : E) (ts : List Ty) : evalE C (.isi a ts) σ = (evalE C a σ).bind fun p σ1 => .ok (.d (.bl (ts.any fun t => tyD t p.frz))) σ1 := by rw [evalE] <;> rfl
/-- a comprehension's turn -/
def turnC (C : CF) (tg : Tg) (cs : List E) (own : List Nat) (elt : E) (x : Dat) (τ : Sto) : Res (Option PV) :=
  match asg tg (.d x) (wipeS τ own) with
  | some τ1 => noX ((evalTs C cs τ1).bind fun b τ2 => if b then (evalE C elt τ2).bind fun v τ3 => .ok (some v) τ3 else .ok none τ2)
  | none => .bad
@[simp] theorem ev_comp (k : SK) (ss : List E) (tg : Tg) (cs : List E) (own : List Nat) (elt : E) : evalE C (.comp k ss tg cs own elt) σ = (evalEs C ss σ).bind fun ps σ1 =>
    match itsOf k (frzs ps) with
    | some its => (its.comp (turnC C tg cs own elt) (wipeS σ1 own)).bind fun vs σ2 => .ok (.lst vs) (backS σ1 own σ2)
    | none => .bad := by rw [evalE] <;> rfl
@[simp] theorem ev_compV (k : SK) (r : Nat) (tg : Tg) (cs : List E) (own : List Nat) (elt : E) : evalE C (.compV k r tg cs own elt) σ = (match σ[r]? with
    | some (some p) => (match vwP p with
      | some x => (match itsOf k [x] with
        | some its => (its.comp (turnC C tg cs own elt) (wipeS (σ.set r none) own)).bind fun vs σ2 => .ok (.lst vs) ((backS (σ.set r none) own σ2).set r (some p))
        | none => .bad)
      | none => .bad)
    | _ => .bad) := by rw [evalE] <;> rfl
@[simp] theorem ev_meth (m : Mt) (r : Nat) (es : List E) : evalE C (.meth m r es) σ = (match σ[r]? with
    | some (some (.lst _)) => (evalEs C es σ).bind fun ps σ1 =>
      match σ1[r]? with
      | some (some p) => (match methP m p ps with
        | some (v, p') => .ok v (σ1.set r (some p'))
        | none => .bad)
      | _ => .bad
    | _ => .bad) := by rw [evalE] <;> rfl
@[simp] theorem evs_nil : evalEs C [] σ = .ok [] σ := by rw [evalEs] <;> rfl
@[simp] theorem evs_cons (e : E) (es : List E) : evalEs C (e :: es) σ = (evalE C e σ).bind fun p σ1 => (evalEs C es σ1).bind fun ps σ2 => .ok (p :: ps) σ2 := by rw [evalEs] <;> rfl
@[simp] theorem evo_none : evalO C none σ = .ok none σ := by rw [evalO] <;> rfl
@[simp] theorem evo_some (e : E) : evalO C (some e) σ = (evalE C e σ).bind fun p σ1 =>
    match p.frz with
    | .int i => .ok (some i) σ1
    | _ => .bad := by rw [evalO] <;> rfl
@[simp] theorem evt_nil : evalTs C [] σ = .ok true σ := by rw [evalTs] <;> rfl
@[simp] theorem evt_cons (e : E) (es : List E) : evalTs C (e :: es) σ = (evalE C e σ).bind fun p σ1 => (optR (truO p.frz) σ1).bind fun k σ2 => if k then evalTs C es σ2 else .ok false σ2 := by rw [evalTs] <;> rfl
@[simp] theorem frof_ok (a : PV) (f : PV → Sto → FR) : FRof (.ok a σ) f = f a σ := Eq.trans rfl rfl
@[simp] theorem frof_exc (c : Str) (fs : List (Str × Dat)) (f : PV → Sto → FR) : FRof (.exc c fs σ) f = .exc c fs σ := Eq.trans rfl rfl
@[simp] theorem frof_bad (f : PV → Sto → FR) : FRof .bad f = .bad := Eq.trans rfl rfl
@[simp] theorem ex_set (i : Nat) (e : E) : execS C fu (.set i e) σ = FRof (evalE C e σ) fun v σ1 => .nx (σ1.set i (some v)) := by rw [execS] <;> rfl
@[simp] theorem ex_unp (t : Tg) (e : E) : execS C fu (.unp t e) σ = FRof (evalE C e σ) fun v σ1 => match asg t v σ1 with
    | some σ2 => .nx σ2
    | none => .bad := by rw [execS] <;> rfl
@[simp] theorem ex_par (is : List Nat) (es : List E) : execS C fu (.par is es) σ = (match evalEs C es σ with
    | .ok ps σ1 => if ps.length = is.length then .nx (setL is ps σ1) else .bad
    | .exc c fs σ1 => .exc c fs σ1
    | .bad => .bad) := by rw [execS] <;> rfl
@[simp] theorem ex_aug (i : Nat) (op : Bop) (e : E) : execS C fu (.aug i op e) σ = (match σ[i]? with
    | some (some (.d x)) => FRof (evalE C e σ) fun v σ1 => (match augI op x v.frz with
      | some y => .nx (σ1.set i (some (.d y)))
      | none => .bad)
    | _ => .bad) := by rw [execS] <;> rfl
@[simp] theorem ex_setix (r : Nat) (i e : E) : execS C fu (.setix r i e) σ = FRof (evalE C e σ) fun v σ1 => match σ1[r]? with
    | some (some _) => FRof (evalE C i σ1) fun k σ2 => (match σ2[r]? with
      | some (some p) => (match setIxP p k.frz (.d v.frz) with
        | some p' => .nx (σ2.set r (some p'))
        | none => .bad)
      | _ => .bad)
    | _ => .bad := by rw [execS] <;> rfl
@[simp] theorem ex_expr (e : E) : execS C fu (.expr e) σ = FRof (evalE C e σ) fun _ σ1 => .nx σ1 := by rw [execS] <;> rfl
@[simp] theorem ex_ret (e : E) : execS C fu (.ret e) σ = FRof (evalE C e σ) fun v σ1 => .ret v σ1 := by rw [execS] <;> rfl
@[simp] theorem ex_ite (c : E) (a b : List S) : execS C fu (.ite c a b) σ = FRof (evalE C c σ) fun p σ1 => match truO p.frz with
    | some k => if k then execB C fu a σ1 else execB C fu b σ1
    | none => .bad := by rw [execS] <;> rfl
/-- a loop's turn -/
def turnF (C : CF) (fu : Nat) (tg : Tg) (b : List S) (x : Dat) (τ : Sto) : FR :=
  match asg tg (.d x) τ with
  | some τ1 => execB C fu b τ1
  | none => .bad
@[simp] theorem ex_for (k : SK) (ss : List E) (tg : Tg) (b : List S) : execS C fu (.for_ k ss tg b) σ = (match evalEs C ss σ with
    | .ok ps σ1 => (match itsOf k (frzs ps) with
      | some its => its.go (turnF C fu tg b) σ1
      | none => .bad)
    | .exc c fs σ1 => .exc c fs σ1
    | .bad => .bad) := by rw [execS] <;> rfl
@[simp] theorem ex_brk : execS C fu .brk σ = .brk σ := by rw [execS] <;> rfl
@[simp] theorem ex_cont : execS C fu .cont σ = .cont σ := by rw [execS] <;> rfl
@[simp] theorem ex_pass : execS C fu .pass σ = .nx σ := by rw [execS] <;> rfl
@[simp] theorem ex_raise (c : Str) (ns : List Str) (es : List E) : execS C fu (.raise c ns es) σ = (match evalEs C es σ with
    | .ok ps σ1 => if ns.length = ps.length then .exc c (ns.zip (frzs ps)) σ1 else .bad
    | .exc c fs σ1 => .exc c fs σ1
    | .bad => .bad) := by rw [execS] <;> rfl
@[simp] theorem ex_dput (r : Nat) (k e : E) : execS C fu (.dput r k e) σ = FRof (evalE C e σ) fun v σ1 => match σ1[r]? with
    | some (some _) => FRof (evalE C k σ1) fun y σ2 => (match σ2[r]? with
      | some (some p) => (match dputP y.frz v.frz p with
        | some p' => .nx (σ2.set r (some p'))
        | none => .bad)
      | _ => .bad)
    | _ => .bad := by rw [execS] <;> rfl
@[simp] theorem ex_augix (r : Nat) (i : E) (op : Bop) (e : E) : execS C fu (.augix r i op e) σ = (match σ[r]? with
    | some (some _) => FRof (evalE C i σ) fun k σ1 => (match σ1[r]? with
      | some (some (.lst xs1)) => (match idxP (.lst xs1) k.frz with
        | some x => FRof (evalE C e σ1) fun v σ2 => (match augI op x v.frz with
          | some y => (match σ2[r]? with
            | some (some p) => (match setIxP p k.frz (.d y) with
              | some p' => .nx (σ2.set r (some p'))
              | none => .bad)
            | _ => .bad)
          | none => .bad)
        | none => .bad)
      | _ => .bad)
    | _ => .bad) := by rw [execS] <;> rfl
@[simp] theorem ex_try (b : List S) (cs : List (Str × Bool)) (i : Nat) (ok : List Str) (hs : List (Option HG × HE)) : execS C fu (.try_ b cs i ok hs) σ = (match execB C fu b σ with
    | .exc c' fs σ1 => (match cs.lookup c' with
      | some true => if c' ∈ ok ∧ i < σ1.length then (match evalHG c' fs hs with
        | some (some x) => .ret (.d x) (σ1.set i none)
        | some none => .nx (σ1.set i none)
        | none => .bad) else .bad
      | some false => .exc c' fs σ1
      | none => .bad)
    | r => r) := by rw [execS] <;> rfl
@[simp] theorem xb_nil : execB C fu [] σ = .nx σ := by rw [execB] <;> rfl
@[simp] theorem xb_cons (s : S) (r : List S) : execB C fu (s :: r) σ = (match execS C fu s σ with
    | .nx σ1 => execB C fu r σ1
    | x => x) := by rw [execB] <;> rfl
end
section
variable {asg0 : List Nat}
@[simp] theorem fixA_nil (k : Nat) : fixA asg0 k [] = [] := Eq.trans rfl rfl
@[simp] theorem fixA_none (k : Nat) : ∀ as : List PV, fixA [] k as = as
  | [] => rfl
  | p :: r => by simp [fixA, fixA_none (k + 1) r]
theorem outA_eq (σ : Sto) (k : Nat) (p : PV) (r : List PV) : outA [] σ k (p :: r) = (σ[k]?).join.bind fun q => (outA [] σ (k + 1) r).map (q :: ·) := rfl
@[simp] theorem outA_nil (σ : Sto) (k : Nat) : outA asg0 σ k [] = some [] := Eq.trans rfl rfl
@[simp] theorem optR_map_some {α β : Type} (f : α → β) (a : α) (σ : Sto) : optR ((some a).map f) σ = .ok (f a) σ := Eq.trans rfl rfl
end
/-! ### targets -/
@[simp] theorem as_n (i : Nat) (v : PV) (σ : Sto) : asg (.n i) v σ = some (σ.set i (some v)) := by rw [asg]
@[simp] theorem as_t (ts : List Tg) (xs : List Dat) (σ : Sto) : asg (.t ts) (.d (.tup xs)) σ = asgs ts (xs.map .d) σ := by rw [asg]
@[simp] theorem as_tp (ts : List Tg) (xs : List PV) (σ : Sto) : asg (.t ts) (.tup xs) σ = asgs ts xs σ := by rw [asg]
@[simp] theorem ass_nil (σ : Sto) : asgs [] [] σ = some σ := by rw [asgs]
@[simp] theorem ass_cons (t : Tg) (ts : List Tg) (v : PV) (vs : List PV) (σ : Sto) : asgs (t :: ts) (v :: vs) σ = (asg t v σ).bind fun σ' => asgs ts vs σ' := by rw [asgs]
/-! ### slots by number -/
section
variable {r : List (Option PV)} {v : Option PV}
@[simp high] theorem gs_0 {x0 : Option PV} : (x0 :: r)[0]? = some x0 := Eq.trans rfl rfl
@[simp high] theorem st_0 {x0 : Option PV} : (x0 :: r).set 0 v = v :: r := Eq.trans rfl rfl
@[simp high] theorem gs_1 {x0 x1 : Option PV} : (x0 :: x1 :: r)[1]? = some x1 := Eq.trans rfl rfl
@[simp high] theorem st_1 {x0 x1 : Option PV} : (x0 :: x1 :: r).set 1 v = x0 :: v :: r := Eq.trans rfl rfl
@[simp high] theorem gs_2 {x0 x1 x2 : Option PV} : (x0 :: x1 :: x2 :: r)[2]? = some x2 := Eq.trans rfl rfl
@[simp high] theorem st_2 {x0 x1 x2 : Option PV} : (x0 :: x1 :: x2 :: r).set 2 v = x0 :: x1 :: v :: r := Eq.trans rfl rfl
@[simp high] theorem gs_3 {x0 x1 x2 x3 : Option PV} : (x0 :: x1 :: x2 :: x3 :: r)[3]? = some x3 := Eq.trans rfl rfl
@[simp high] theorem st_3 {x0 x1 x2 x3 : Option PV} : (x0 :: x1 :: x2 :: x3 :: r).set 3 v = x0 :: x1 :: x2 :: v :: r := Eq.trans rfl rfl
@[simp high] theorem gs_4 {x0 x1 x2 x3 x4 : Option PV} : (x0 :: x1 :: x2 :: x3 :: x4 :: r)[4]? = some x4 := Eq.trans rfl rfl
@[simp high] theorem st_4 {x0 x1 x2 x3 x4 : Option PV} : (x0 :: x1 :: x2 :: x3 :: x4 :: r).set 4 v = x0 :: x1 :: x2 :: x3 :: v :: r := Eq.trans rfl rfl
@[simp high] theorem gs_5 {x0 x1 x2 x3 x4 x5 : Option PV} : (x0 :: x1 :: x2 :: x3 :: x4 :: x5 :: r)[5]? = some x5 := Eq.trans rfl rfl
@[simp high] theorem st_5 {x0 x1 x2 x3 x4 x5 : Option PV} : (x0 :: x1 :: x2 :: x3 :: x4 :: x5 :: r).set 5 v = x0 :: x1 :: x2 :: x3 :: x4 :: v :: r := Eq.trans rfl rfl
@[simp high] theorem gs_6 {x0 x1 x2 x3 x4 x5 x6 : Option PV} : (x0 :: x1 :: x2 :: x3 :: x4 :: x5 :: x6 :: r)[6]? = some x6 := Eq.trans rfl rfl
@[simp high] theorem st_6 {x0 x1 x2 x3 x4 x5 x6 : Option PV} : (x0 :: x1 :: x2 :: x3 :: x4 :: x5 :: x6 :: r).set 6 v = x0 :: x1 :: x2 :: x3 :: x4 :: x5 :: v :: r := Eq.trans rfl rfl
@[simp high] theorem gs_7 {x0 x1 x2 x3 x4 x5 x6 x7 : Option PV} : (x0 :: x1 :: x2 :: x3 :: x4 :: x5 :: x6 :: x7 :: r)[7]? = some x7 := Eq.trans rfl rfl
@[simp high] theorem st_7 {x0 x1 x2 x3 x4 x5 x6 x7 : Option PV} : (x0 :: x1 :: x2 :: x3 :: x4 :: x5 :: x6 :: x7 :: r).set 7 v = x0 :: x1 :: x2 :: x3 :: x4 :: x5 :: x6 :: v :: r := Eq.trans rfl rfl
@[simp high] theorem gs_8 {x0 x1 x2 x3 x4 x5 x6 x7 x8 : Option PV} : (x0 :: x1 :: x2 :: x3 :: x4 :: x5 :: x6 :: x7 :: x8 :: r)[8]? = some x8 := Eq.trans rfl rfl
@[simp high] theorem st_8 {x0 x1 x2 x3 x4 x5 x6 x7 x8 : Option PV} : (x0 :: x1 :: x2 :: x3 :: x4 :: x5 :: x6 :: x7 :: x8 :: r).set 8 v = x0 :: x1 :: x2 :: x3 :: x4 :: x5 :: x6 :: x7 :: v :: r := Eq.trans rfl rfl
@[simp high] theorem gs_9 {x0 x1 x2 x3 x4 x5 x6 x7 x8 x9 : Option PV} : (x0 :: x1 :: x2 :: x3 :: x4 :: x5 :: x6 :: x7 :: x8 :: x9 :: r)[9]? = some x9 := Eq.trans rfl rfl
@[simp high] theorem st_9 {x0 x1 x2 x3 x4 x5 x6 x7 x8 x9 : Option PV} : (x0 :: x1 :: x2 :: x3 :: x4 :: x5 :: x6 :: x7 :: x8 :: x9 :: r).set 9 v = x0 :: x1 :: x2 :: x3 :: x4 :: x5 :: x6 :: x7 :: x8 :: v :: r := Eq.trans rfl rfl
@[simp high] theorem gs_10 {x0 x1 x2 x3 x4 x5 x6 x7 x8 x9 x10 : Option PV} : (x0 :: x1 :: x2 :: x3 :: x4 :: x5 :: x6 :: x7 :: x8 :: x9 :: x10 :: r)[10]? = some x10 := Eq.trans rfl rfl
@[simp high] theorem st_10 {x0 x1 x2 x3 x4 x5 x6 x7 x8 x9 x10 : Option PV} : (x0 :: x1 :: x2 :: x3 :: x4 :: x5 :: x6 :: x7 :: x8 :: x9 :: x10 :: r).set 10 v = x0 :: x1 :: x2 :: x3 :: x4 :: x5 :: x6 :: x7 :: x8 :: x9 :: v :: r := Eq.trans rfl rfl
@[simp high] theorem gs_11 {x0 x1 x2 x3 x4 x5 x6 x7 x8 x9 x10 x11 : Option PV} : (x0 :: x1 :: x2 :: x3 :: x4 :: x5 :: x6 :: x7 :: x8 :: x9 :: x10 :: x11 :: r)[11]? = some x11 := Eq.trans rfl rfl
@[simp high] theorem st_11 {x0 x1 x2 x3 x4 x5 x6 x7 x8 x9 x10 x11 : Option PV} : (x0 :: x1 :: x2 :: x3 :: x4 :: x5 :: x6 :: x7 :: x8 :: x9 :: x10 :: x11 :: r).set 11 v = x0 :: x1 :: x2 :: x3 :: x4 :: x5 :: x6 :: x7 :: x8 :: x9 :: x10 :: v :: r := Eq.trans rfl rfl
@[simp high] theorem gs_12 {x0 x1 x2 x3 x4 x5 x6 x7 x8 x9 x10 x11 x12 : Option PV} : (x0 :: x1 :: x2 :: x3 :: x4 :: x5 :: x6 :: x7 :: x8 :: x9 :: x10 :: x11 :: x12 :: r)[12]? = some x12 := Eq.trans rfl rfl
@[simp high] theorem st_12 {x0 x1 x2 x3 x4 x5 x6 x7 x8 x9 x10 x11 x12 : Option PV} : (x0 :: x1 :: x2 :: x3 :: x4 :: x5 :: x6 :: x7 :: x8 :: x9 :: x10 :: x11 :: x12 :: r).set 12 v = x0 :: x1 :: x2 :: x3 :: x4 :: x5 :: x6 :: x7 :: x8 :: x9 :: x10 :: x11 :: v :: r := Eq.trans rfl rfl
@[simp high] theorem gs_13 {x0 x1 x2 x3 x4 x5 x6 x7 x8 x9 x10 x11 x12 x13 : Option PV} : (x0 :: x1 :: x2 :: x3 :: x4 :: x5 :: x6 :: x7 :: x8 :: x9 :: x10 :: x11 :: x12 :: x13 :: r)[13]? = some x13 := Eq.trans rfl rfl
@[simp high] theorem st_13 {x0 x1 x2 x3 x4 x5 x6 x7 x8 x9 x10 x11 x12 x13 : Option PV} : (x0 :: x1 :: x2 :: x3 :: x4 :: x5 :: x6 :: x7 :: x8 :: x9 :: x10 :: x11 :: x12 :: x13 :: r).set 13 v = x0 :: x1 :: x2 :: x3 :: x4 :: x5 :: x6 :: x7 :: x8 :: x9 :: x10 :: x11 :: x12 :: v :: r := Eq.trans rfl rfl
@[simp high] theorem gs_14 {x0 x1 x2 x3 x4 x5 x6 x7 x8 x9 x10 x11 x12 x13 x14 : Option PV} : (x0 :: x1 :: x2 :: x3 :: x4 :: x5 :: x6 :: x7 :: x8 :: x9 :: x10 :: x11 :: x12 :: x13 :: x14 :: r)[14]? = some x14 := Eq.trans rfl rfl
@[simp high] theorem st_14 {x0 x1 x2 x3 x4 x5 x6 x7 x8 x9 x10 x11 x12 x13 x14 : Option PV} : (x0 :: x1 :: x2 :: x3 :: x4 :: x5 :: x6 :: x7 :: x8 :: x9 :: x10 :: x11 :: x12 :: x13 :: x14 :: r).set 14 v = x0 :: x1 :: x2 :: x3 :: x4 :: x5 :: x6 :: x7 :: x8 :: x9 :: x10 :: x11 :: x12 :: x13 :: v :: r := Eq.trans rfl rfl
@[simp high] theorem gs_15 {x0 x1 x2 x3 x4 x5 x6 x7 x8 x9 x10 x11 x12 x13 x14 x15 : Option PV} : (x0 :: x1 :: x2 :: x3 :: x4 :: x5 :: x6 :: x7 :: x8 :: x9 :: x10 :: x11 :: x12 :: x13 :: x14 :: x15 :: r)[15]? = some x15 := Eq.trans rfl rfl
@[simp high] theorem st_15 {x0 x1 x2 x3 x4 x5 x6 x7 x8 x9 x10 x11 x12 x13 x14 x15 : Option PV} : (x0 :: x1 :: x2 :: x3 :: x4 :: x5 :: x6 :: x7 :: x8 :: x9 :: x10 :: x11 :: x12 :: x13 :: x14 :: x15 :: r).set 15 v = x0 :: x1 :: x2 :: x3 :: x4 :: x5 :: x6 :: x7 :: x8 :: x9 :: x10 :: x11 :: x12 :: x13 :: x14 :: v :: r := Eq.trans rfl rfl
@[simp high] theorem gs_16 {x0 x1 x2 x3 x4 x5 x6 x7 x8 x9 x10 x11 x12 x13 x14 x15 x16 : Option PV} : (x0 :: x1 :: x2 :: x3 :: x4 :: x5 :: x6 :: x7 :: x8 :: x9 :: x10 :: x11 :: x12 :: x13 :: x14 :: x15 :: x16 :: r)[16]? = some x16 := Eq.trans rfl rfl
@[simp high] theorem st_16 {x0 x1 x2 x3 x4 x5 x6 x7 x8 x9 x10 x11 x12 x13 x14 x15 x16 : Option PV} : (x0 :: x1 :: x2 :: x3 :: x4 :: x5 :: x6 :: x7 :: x8 :: x9 :: x10 :: x11 :: x12 :: x13 :: x14 :: x15 :: x16 :: r).set 16 v = x0 :: x1 :: x2 :: x3 :: x4 :: x5 :: x6 :: x7 :: x8 :: x9 :: x10 :: x11 :: x12 :: x13 :: x14 :: x15 :: v :: r := Eq.trans rfl rfl
@[simp high] theorem gs_17 {x0 x1 x2 x3 x4 x5 x6 x7 x8 x9 x10 x11 x12 x13 x14 x15 x16 x17 : Option PV} : (x0 :: x1 :: x2 :: x3 :: x4 :: x5 :: x6 :: x7 :: x8 :: x9 :: x10 :: x11 :: x12 :: x13 :: x14 :: x15 :: x16 :: x17 :: r)[17]? = some x17 := Eq.trans rfl rfl
@[simp high] theorem st_17 {x0 x1 x2 x3 x4 x5 x6 x7 x8 x9 x10 x11 x12 x13 x14 x15 x16 x17 : Option PV} : (x0 :: x1 :: x2 :: x3 :: x4 :: x5 :: x6 :: x7 :: x8 :: x9 :: x10 :: x11 :: x12 :: x13 :: x14 :: x15 :: x16 :: x17 :: r).set 17 v = x0 :: x1 :: x2 :: x3 :: x4 :: x5 :: x6 :: x7 :: x8 :: x9 :: x10 :: x11 :: x12 :: x13 :: x14 :: x15 :: x16 :: v :: r := Eq.trans rfl rfl
@[simp high] theorem gs_18 {x0 x1 x2 x3 x4 x5 x6 x7 x8 x9 x10 x11 x12 x13 x14 x15 x16 x17 x18 : Option PV} : (x0 :: x1 :: x2 :: x3 :: x4 :: x5 :: x6 :: x7 :: x8 :: x9 :: x10 :: x11 :: x12 :: x13 :: x14 :: x15 :: x16 :: x17 :: x18 :: r)[18]? = some x18 := Eq.trans rfl rfl
@[simp high] theorem st_18 {x0 x1 x2 x3 x4 x5 x6 x7 x8 x9 x10 x11 x12 x13 x14 x15 x16 x17 x18 : Option PV} : (x0 :: x1 :: x2 :: x3 :: x4 :: x5 :: x6 :: x7 :: x8 :: x9 :: x10 :: x11 :: x12 :: x13 :: x14 :: x15 :: x16 :: x17 :: x18 :: r).set 18 v = x0 :: x1 :: x2 :: x3 :: x4 :: x5 :: x6 :: x7 :: x8 :: x9 :: x10 :: x11 :: x12 :: x13 :: x14 :: x15 :: x16 :: x17 :: v :: r := Eq.trans rfl rfl
@[simp high] theorem gs_19 {x0 x1 x2 x3 x4 x5 x6 x7 x8 x9 x10 x11 x12 x13 x14 x15 x16 x17 x18 x19 : Option PV} : (x0 :: x1 :: x2 :: x3 :: x4 :: x5 :: x6 :: x7 :: x8 :: x9 :: x10 :: x11 :: x12 :: x13 :: x14 :: x15 :: x16 :: x17 :: x18 :: x19 :: r)[19]? = some x19 := Eq.trans rfl rfl
@[simp high] theorem st_19 {x0 x1 x2 x3 x4 x5 x6 x7 x8 x9 x10 x11 x12 x13 x14 x15 x16 x17 x18 x19 : Option PV} : (x0 :: x1 :: x2 :: x3 :: x4 :: x5 :: x6 :: x7 :: x8 :: x9 :: x10 :: x11 :: x12 :: x13 :: x14 :: x15 :: x16 :: x17 :: x18 :: x19 :: r).set 19 v = x0 :: x1 :: x2 :: x3 :: x4 :: x5 :: x6 :: x7 :: x8 :: x9 :: x10 :: x11 :: x12 :: x13 :: x14 :: x15 :: x16 :: x17 :: x18 :: v :: r := Eq.trans rfl rfl
@[simp high] theorem gs_20 {x0 x1 x2 x3 x4 x5 x6 x7 x8 x9 x10 x11 x12 x13 x14 x15 x16 x17 x18 x19 x20 : Option PV} : (x0 :: x1 :: x2 :: x3 :: x4 :: x5 :: x6 :: x7 :: x8 :: x9 :: x10 :: x11 :: x12 :: x13 :: x14 :: x15 :: x16 :: x17 :: x18 :: x19 :: x20 :: r)[20]? = some x20 := Eq.trans rfl rfl
@[simp high] theorem st_20 {x0 x1 x2 x3 x4 x5 x6 x7 x8 x9 x10 x11 x12 x13 x14 x15 x16 x17 x18 x19 x20 : Option PV} : (x0 :: x1 :: x2 :: x3 :: x4 :: x5 :: x6 :: x7 :: x8 :: x9 :: x10 :: x11 :: x12 :: x13 :: x14 :: x15 :: x16 :: x17 :: x18 :: x19 :: x20 :: r).set 20 v = x0 :: x1 :: x2 :: x3 :: x4 :: x5 :: x6 :: x7 :: x8 :: x9 :: x10 :: x11 :: x12 :: x13 :: x14 :: x15 :: x16 :: x17 :: x18 :: x19 :: v :: r := Eq.trans rfl rfl
@[simp high] theorem gs_21 {x0 x1 x2 x3 x4 x5 x6 x7 x8 x9 x10 x11 x12 x13 x14 x15 x16 x17 x18 x19 x20 x21 : Option PV} : (x0 :: x1 :: x2 :: x3 :: x4 :: x5 :: x6 :: x7 :: x8 :: x9 :: x10 :: x11 :: x12 :: x13 :: x14 :: x15 :: x16 :: x17 :: x18 :: x19 :: x20 :: x21 :: r)[21]? = some x21 := Eq.trans rfl rfl
@[simp high] theorem st_21 {x0 x1 x2 x3 x4 x5 x6 x7 x8 x9 x10 x11 x12 x13 x14 x15 x16 x17 x18 x19 x20 x21 : Option PV} : (x0 :: x1 :: x2 :: x3 :: x4 :: x5 :: x6 :: x7 :: x8 :: x9 :: x10 :: x11 :: x12 :: x13 :: x14 :: x15 :: x16 :: x17 :: x18 :: x19 :: x20 :: x21 :: r).set 21 v = x0 :: x1 :: x2 :: x3 :: x4 :: x5 :: x6 :: x7 :: x8 :: x9 :: x10 :: x11 :: x12 :: x13 :: x14 :: x15 :: x16 :: x17 :: x18 :: x19 :: x20 :: v :: r := Eq.trans rfl rfl
@[simp high] theorem gs_22 {x0 x1 x2 x3 x4 x5 x6 x7 x8 x9 x10 x11 x12 x13 x14 x15 x16 x17 x18 x19 x20 x21 x22 : Option PV} : (x0 :: x1 :: x2 :: x3 :: x4 :: x5 :: x6 :: x7 :: x8 :: x9 :: x10 :: x11 :: x12 :: x13 :: x14 :: x15 :: x16 :: x17 :: x18 :: x19 :: x20 :: x21 :: x22 :: r)[22]? = some x22 := Eq.trans rfl rfl
@[simp high] theorem st_22 {x0 x1 x2 x3 x4 x5 x6 x7 x8 x9 x10 x11 x12 x13 x14 x15 x16 x17 x18 x19 x20 x21 x22 : Option PV} : (x0 :: x1 :: x2 :: x3 :: x4 :: x5 :: x6 :: x7 :: x8 :: x9 :: x10 :: x11 :: x12 :: x13 :: x14 :: x15 :: x16 :: x17 :: x18 :: x19 :: x20 :: x21 :: x22 :: r).set 22 v = x0 :: x1 :: x2 :: x3 :: x4 :: x5 :: x6 :: x7 :: x8 :: x9 :: x10 :: x11 :: x12 :: x13 :: x14 :: x15 :: x16 :: x17 :: x18 :: x19 :: x20 :: x21 :: v :: r := Eq.trans rfl rfl
@[simp high] theorem gs_23 {x0 x1 x2 x3 x4 x5 x6 x7 x8 x9 x10 x11 x12 x13 x14 x15 x16 x17 x18 x19 x20 x21 x22 x23 : Option PV} : (x0 :: x1 :: x2 :: x3 :: x4 :: x5 :: x6 :: x7 :: x8 :: x9 :: x10 :: x11 :: x12 :: x13 :: x14 :: x15 :: x16 :: x17 :: x18 :: x19 :: x20 :: x21 :: x22 :: x23 :: r)[23]? = some x23 := Eq.trans rfl rfl
@[simp high] theorem st_23 {x0 x1 x2 x3 x4 x5 x6 x7 x8 x9 x10 x11 x12 x13 x14 x15 x16 x17 x18 x19 x20 x21 x22 x23 : Option PV} : (x0 :: x1 :: x2 :: x3 :: x4 :: x5 :: x6 :: x7 :: x8 :: x9 :: x10 :: x11 :: x12 :: x13 :: x14 :: x15 :: x16 :: x17 :: x18 :: x19 :: x20 :: x21 :: x22 :: x23 :: r).set 23 v = x0 :: x1 :: x2 :: x3 :: x4 :: x5 :: x6 :: x7 :: x8 :: x9 :: x10 :: x11 :: x12 :: x13 :: x14 :: x15 :: x16 :: x17 :: x18 :: x19 :: x20 :: x21 :: x22 :: v :: r := Eq.trans rfl rfl
@[simp high] theorem gs_24 {x0 x1 x2 x3 x4 x5 x6 x7 x8 x9 x10 x11 x12 x13 x14 x15 x16 x17 x18 x19 x20 x21 x22 x23 x24 : Option PV} : (x0 :: x1 :: x2 :: x3 :: x4 :: x5 :: x6 :: x7 :: x8 :: x9 :: x10 :: x11 :: x12 :: x13 :: x14 :: x15 :: x16 :: x17 :: x18 :: x19 :: x20 :: x21 :: x22 :: x23 :: x24 :: r)[24]? = some x24 := Eq.trans rfl rfl
@[simp high] theorem st_24 {x0 x1 x2 x3 x4 x5 x6 x7 x8 x9 x10 x11 x12 x13 x14 x15 x16 x17 x18 x19 x20 x21 x22 x23 x24 : Option PV} : (x0 :: x1 :: x2 :: x3 :: x4 :: x5 :: x6 :: x7 :: x8 :: x9 :: x10 :: x11 :: x12 :: x13 :: x14 :: x15 :: x16 :: x17 :: x18 :: x19 :: x20 :: x21 :: x22 :: x23 :: x24 :: r).set 24 v = x0 :: x1 :: x2 :: x3 :: x4 :: x5 :: x6 :: x7 :: x8 :: x9 :: x10 :: x11 :: x12 :: x13 :: x14 :: x15 :: x16 :: x17 :: x18 :: x19 :: x20 :: x21 :: x22 :: x23 :: v :: r := Eq.trans rfl rfl
@[simp high] theorem gs_25 {x0 x1 x2 x3 x4 x5 x6 x7 x8 x9 x10 x11 x12 x13 x14 x15 x16 x17 x18 x19 x20 x21 x22 x23 x24 x25 : Option PV} : (x0 :: x1 :: x2 :: x3 :: x4 :: x5 :: x6 :: x7 :: x8 :: x9 :: x10 :: x11 :: x12 :: x13 :: x14 :: x15 :: x16 :: x17 :: x18 :: x19 :: x20 :: x21 :: x22 :: x23 :: x24 :: x25 :: r)[25]? = some x25 := Eq.trans rfl rfl
@[simp high] theorem st_25 {x0 x1 x2 x3 x4 x5 x6 x7 x8 x9 x10 x11 x12 x13 x14 x15 x16 x17 x18 x19 x20 x21 x22 x23 x24 x25 : Option PV} : (x0 :: x1 :: x2 :: x3 :: x4 :: x5 :: x6 :: x7 :: x8 :: x9 :: x10 :: x11 :: x12 :: x13 :: x14 :: x15 :: x16 :: x17 :: x18 :: x19 :: x20 :: x21 :: x22 :: x23 :: x24 :: x25 :: r).set 25 v = x0 :: x1 :: x2 :: x3 :: x4 :: x5 :: x6 :: x7 :: x8 :: x9 :: x10 :: x11 :: x12 :: x13 :: x14 :: x15 :: x16 :: x17 :: x18 :: x19 :: x20 :: x21 :: x22 :: x23 :: x24 :: v :: r := Eq.trans rfl rfl
@[simp high] theorem gs_26 {x0 x1 x2 x3 x4 x5 x6 x7 x8 x9 x10 x11 x12 x13 x14 x15 x16 x17 x18 x19 x20 x21 x22 x23 x24 x25 x26 : Option PV} : (x0 :: x1 :: x2 :: x3 :: x4 :: x5 :: x6 :: x7 :: x8 :: x9 :: x10 :: x11 :: x12 :: x13 :: x14 :: x15 :: x16 :: x17 :: x18 :: x19 :: x20 :: x21 :: x22 :: x23 :: x24 :: x25 :: x26 :: r)[26]? = some x26 := Eq.trans rfl rfl
@[simp high] theorem st_26 {x0 x1 x2 x3 x4 x5 x6 x7 x8 x9 x10 x11 x12 x13 x14 x15 x16 x17 x18 x19 x20 x21 x22 x23 x24 x25 x26 : Option PV} : (x0 :: x1 :: x2 :: x3 :: x4 :: x5 :: x6 :: x7 :: x8 :: x9 :: x10 :: x11 :: x12 :: x13 :: x14 :: x15 :: x16 :: x17 :: x18 :: x19 :: x20 :: x21 :: x22 :: x23 :: x24 :: x25 :: x26 :: r).set 26 v = x0 :: x1 :: x2 :: x3 :: x4 :: x5 :: x6 :: x7 :: x8 :: x9 :: x10 :: x11 :: x12 :: x13 :: x14 :: x15 :: x16 :: x17 :: x18 :: x19 :: x20 :: x21 :: x22 :: x23 :: x24 :: x25 :: v :: r := Eq.trans rfl rfl
@[simp high] theorem gs_27 {x0 x1 x2 x3 x4 x5 x6 x7 x8 x9 x10 x11 x12 x13 x14 x15 x16 x17 x18 x19 x20 x21 x22 x23 x24 x25 x26 x27 : Option PV} : (x0 :: x1 :: x2 :: x3 :: x4 :: x5 :: x6 :: x7 :: x8 :: x9 :: x10 :: x11 :: x12 :: x13 :: x14 :: x15 :: x16 :: x17 :: x18 :: x19 :: x20 :: x21 :: x22 :: x23 :: x24 :: x25 :: x26 :: x27 :: r)[27]? = some x27 := Eq.trans rfl rfl
@[simp high] theorem st_27 {x0 x1 x2 x3 x4 x5 x6 x7 x8 x9 x10 x11 x12 x13 x14 x15 x16 x17 x18 x19 x20 x21 x22 x23 x24 x25 x26 x27 : Option PV} : (x0 :: x1 :: x2 :: x3 :: x4 :: x5 :: x6 :: x7 :: x8 :: x9 :: x10 :: x11 :: x12 :: x13 :: x14 :: x15 :: x16 :: x17 :: x18 :: x19 :: x20 :: x21 :: x22 :: x23 :: x24 :: x25 :: x26 :: x27 :: r).set 27 v = x0 :: x1 :: x2 :: x3 :: x4 :: x5 :: x6 :: x7 :: x8 :: x9 :: x10 :: x11 :: x12 :: x13 :: x14 :: x15 :: x16 :: x17 :: x18 :: x19 :: x20 :: x21 :: x22 :: x23 :: x24 :: x25 :: x26 :: v :: r := Eq.trans rfl rfl
@[simp high] theorem gs_28 {x0 x1 x2 x3 x4 x5 x6 x7 x8 x9 x10 x11 x12 x13 x14 x15 x16 x17 x18 x19 x20 x21 x22 x23 x24 x25 x26 x27 x28 : Option PV} : (x0 :: x1 :: x2 :: x3 :: x4 :: x5 :: x6 :: x7 :: x8 :: x9 :: x10 :: x11 :: x12 :: x13 :: x14 :: x15 :: x16 :: x17 :: x18 :: x19 :: x20 :: x21 :: x22 :: x23 :: x24 :: x25 :: x26 :: x27 :: x28 :: r)[28]? = some x28 := Eq.trans rfl rfl
@[simp high] theorem st_28 {x0 x1 x2 x3 x4 x5 x6 x7 x8 x9 x10 x11 x12 x13 x14 x15 x16 x17 x18 x19 x20 x21 x22 x23 x24 x25 x26 x27 x28 : Option PV} : (x0 :: x1 :: x2 :: x3 :: x4 :: x5 :: x6 :: x7 :: x8 :: x9 :: x10 :: x11 :: x12 :: x13 :: x14 :: x15 :: x16 :: x17 :: x18 :: x19 :: x20 :: x21 :: x22 :: x23 :: x24 :: x25 :: x26 :: x27 :: x28 :: r).set 28 v = x0 :: x1 :: x2 :: x3 :: x4 :: x5 :: x6 :: x7 :: x8 :: x9 :: x10 :: x11 :: x12 :: x13 :: x14 :: x15 :: x16 :: x17 :: x18 :: x19 :: x20 :: x21 :: x22 :: x23 :: x24 :: x25 :: x26 :: x27 :: v :: r := Eq.trans rfl rfl
@[simp high] theorem gs_29 {x0 x1 x2 x3 x4 x5 x6 x7 x8 x9 x10 x11 x12 x13 x14 x15 x16 x17 x18 x19 x20 x21 x22 x23 x24 x25 x26 x27 x28 x29 : Option PV} : (x0 :: x1 :: x2 :: x3 :: x4 :: x5 :: x6 :: x7 :: x8 :: x9 :: x10 :: x11 :: x12 :: x13 :: x14 :: x15 :: x16 :: x17 :: x18 :: x19 :: x20 :: x21 :: x22 :: x23 :: x24 :: x25 :: x26 :: x27 :: x28 :: x29 :: r)[29]? = some x29 := Eq.trans rfl rfl
@[simp high] theorem st_29 {x0 x1 x2 x3 x4 x5 x6 x7 x8 x9 x10 x11 x12 x13 x14 x15 x16 x17 x18 x19 x20 x21 x22 x23 x24 x25 x26 x27 x28 x29 : Option PV} : (x0 :: x1 :: x2 :: x3 :: x4 :: x5 :: x6 :: x7 :: x8 :: x9 :: x10 :: x11 :: x12 :: x13 :: x14 :: x15 :: x16 :: x17 :: x18 :: x19 :: x20 :: x21 :: x22 :: x23 :: x24 :: x25 :: x26 :: x27 :: x28 :: x29 :: r).set 29 v = x0 :: x1 :: x2 :: x3 :: x4 :: x5 :: x6 :: x7 :: x8 :: x9 :: x10 :: x11 :: x12 :: x13 :: x14 :: x15 :: x16 :: x17 :: x18 :: x19 :: x20 :: x21 :: x22 :: x23 :: x24 :: x25 :: x26 :: x27 :: x28 :: v :: r := Eq.trans rfl rfl
@[simp high] theorem gs_30 {x0 x1 x2 x3 x4 x5 x6 x7 x8 x9 x10 x11 x12 x13 x14 x15 x16 x17 x18 x19 x20 x21 x22 x23 x24 x25 x26 x27 x28 x29 x30 : Option PV} : (x0 :: x1 :: x2 :: x3 :: x4 :: x5 :: x6 :: x7 :: x8 :: x9 :: x10 :: x11 :: x12 :: x13 :: x14 :: x15 :: x16 :: x17 :: x18 :: x19 :: x20 :: x21 :: x22 :: x23 :: x24 :: x25 :: x26 :: x27 :: x28 :: x29 :: x30 :: r)[30]? = some x30 := Eq.trans rfl rfl
@[simp high] theorem st_30 {x0 x1 x2 x3 x4 x5 x6 x7 x8 x9 x10 x11 x12 x13 x14 x15 x16 x17 x18 x19 x20 x21 x22 x23 x24 x25 x26 x27 x28 x29 x30 : Option PV} : (x0 :: x1 :: x2 :: x3 :: x4 :: x5 :: x6 :: x7 :: x8 :: x9 :: x10 :: x11 :: x12 :: x13 :: x14 :: x15 :: x16 :: x17 :: x18 :: x19 :: x20 :: x21 :: x22 :: x23 :: x24 :: x25 :: x26 :: x27 :: x28 :: x29 :: x30 :: r).set 30 v = x0 :: x1 :: x2 :: x3 :: x4 :: x5 :: x6 :: x7 :: x8 :: x9 :: x10 :: x11 :: x12 :: x13 :: x14 :: x15 :: x16 :: x17 :: x18 :: x19 :: x20 :: x21 :: x22 :: x23 :: x24 :: x25 :: x26 :: x27 :: x28 :: x29 :: v :: r := Eq.trans rfl rfl
@[simp high] theorem gs_31 {x0 x1 x2 x3 x4 x5 x6 x7 x8 x9 x10 x11 x12 x13 x14 x15 x16 x17 x18 x19 x20 x21 x22 x23 x24 x25 x26 x27 x28 x29 x30 x31 : Option PV} : (x0 :: x1 :: x2 :: x3 :: x4 :: x5 :: x6 :: x7 :: x8 :: x9 :: x10 :: x11 :: x12 :: x13 :: x14 :: x15 :: x16 :: x17 :: x18 :: x19 :: x20 :: x21 :: x22 :: x23 :: x24 :: x25 :: x26 :: x27 :: x28 :: x29 :: x30 :: x31 :: r)[31]? = some x31 := Eq.trans rfl rfl
@[simp high] theorem st_31 {x0 x1 x2 x3 x4 x5 x6 x7 x8 x9 x10 x11 x12 x13 x14 x15 x16 x17 x18 x19 x20 x21 x22 x23 x24 x25 x26 x27 x28 x29 x30 x31 : Option PV} : (x0 :: x1 :: x2 :: x3 :: x4 :: x5 :: x6 :: x7 :: x8 :: x9 :: x10 :: x11 :: x12 :: x13 :: x14 :: x15 :: x16 :: x17 :: x18 :: x19 :: x20 :: x21 :: x22 :: x23 :: x24 :: x25 :: x26 :: x27 :: x28 :: x29 :: x30 :: x31 :: r).set 31 v = x0 :: x1 :: x2 :: x3 :: x4 :: x5 :: x6 :: x7 :: x8 :: x9 :: x10 :: x11 :: x12 :: x13 :: x14 :: x15 :: x16 :: x17 :: x18 :: x19 :: x20 :: x21 :: x22 :: x23 :: x24 :: x25 :: x26 :: x27 :: x28 :: x29 :: x30 :: v :: r := Eq.trans rfl rfl
end
end R

/-! B2: tools for the plain laws; the laws' common helpers. -/
namespace R
open PySem PySem.Spec L2
open PyProof.Rows hiding St
/-! ### operators, as rules -/
section
variable (i j : Int) (xs : List Dat) (s : Str)
@[simp] theorem binD_add : binD .add (.int i) (.int j) = some (.d (.int (i + j))) := Eq.trans rfl rfl
@[simp] theorem binD_sub : binD .sub (.int i) (.int j) = some (.d (.int (i - j))) := Eq.trans rfl rfl
theorem binD_mul (h : small i = true ∨ small j = true) : binD .mul (.int i) (.int j) = some (.d (.int (i * j))) := by
  have e : (small i || small j || decide (i.natAbs.log2 + j.natAbs.log2 < 1000000)) = true := by
    rcases h with h | h <;> simp [h]
  simp only [binD, e, if_true]
theorem binD_mod (h : 0 < j) : binD .mod (.int i) (.int j) = some (.d (.int (i % j))) := by simp [binD, h]
theorem binD_fdiv (h : 0 < j) (h2 : j.natAbs.log2 < 9000) : binD .fdiv (.int i) (.int j) = some (.d (.int (i / j))) := by simp [binD, h, h2]
@[simp] theorem cmpD_lt : cmpD .lt (.int i) (.int j) = some (decide (i < j)) := Eq.trans rfl rfl
@[simp] theorem cmpD_gt : cmpD .gt (.int i) (.int j) = some (decide (j < i)) := Eq.trans rfl rfl
@[simp] theorem cmpD_le : cmpD .le (.int i) (.int j) = some (!decide (j < i)) := Eq.trans rfl rfl
@[simp] theorem cmpD_ge : cmpD .ge (.int i) (.int j) = some (!decide (i < j)) := Eq.trans rfl rfl
@[simp] theorem cmpD_eq : cmpD .eq (.int i) (.int j) = some (decide (i = j)) := Eq.trans rfl rfl
@[simp] theorem cmpD_ne : cmpD .ne (.int i) (.int j) = some (!decide (i = j)) := Eq.trans rfl rfl
@[simp] theorem cmpD_isN (a : Dat) : cmpD .is a .non = some (decide (a = .non)) := by cases a <;> rfl
@[simp] theorem cmpD_isnN (a : Dat) : cmpD .isnot a .non = some (!decide (a = .non)) := by cases a <;> rfl
@[simp] theorem truO_bl (b : Bool) : truO (.bl b) = some b := Eq.trans rfl rfl
@[simp] theorem truO_int : truO (.int i) = some (i != 0) := Eq.trans rfl rfl
@[simp] theorem biD_len_tup : biD .len [.tup xs] = some (.d (.int xs.length)) := Eq.trans rfl rfl
@[simp] theorem biD_len_lst : biD .len [.lst xs] = some (.d (.int xs.length)) := Eq.trans rfl rfl
@[simp] theorem biD_len_scr : biD .len [.scr xs] = some (.d (.int xs.length)) := Eq.trans rfl rfl
@[simp] theorem biD_int : biD .int [.int i] = some (.d (.int i)) := Eq.trans rfl rfl
@[simp] theorem biD_abs : biD .abs [.int i] = some (.d (.int (if i < 0 then -i else i))) := Eq.trans rfl rfl
@[simp] theorem biD_min2 : biD .min2 [.int i, .int j] = some (.d (.int (min i j))) := Eq.trans rfl rfl
@[simp] theorem biD_max2 : biD .max2 [.int i, .int j] = some (.d (.int (max i j))) := Eq.trans rfl rfl
@[simp] theorem biD_tuple_l : biD .tuple [.lst xs] = some (.d (.tup xs)) := Eq.trans rfl rfl
@[simp] theorem biD_tuple_t : biD .tuple [.tup xs] = some (.d (.tup xs)) := Eq.trans rfl rfl
@[simp] theorem revD_l : revD (.lst xs) = some (dl xs.reverse) := Eq.trans rfl rfl
@[simp] theorem idxP_d (b k : Dat) : idxP (.d b) k = idxD b k := by cases b <;> rfl
@[simp] theorem idxD_tup : idxD (.tup xs) (.int i) = L2.atI xs i := Eq.trans rfl rfl
@[simp] theorem idxD_lst : idxD (.lst xs) (.int i) = L2.atI xs i := Eq.trans rfl rfl
@[simp] theorem idxD_scr : idxD (.scr xs) (.int i) = L2.atI xs i := Eq.trans rfl rfl
theorem atI_nat {α : Type} {l : List α} {k : Nat} (h : k < l.length) : L2.atI l (k : Int) = some l[k] := by
  unfold L2.atI L2.ixN
  simp [h]
theorem atI_of {α : Type} {l : List α} {i : Int} (h0 : 0 ≤ i) (h : i < l.length) : L2.atI l i = l[i.toNat]? := by
  unfold L2.atI L2.ixN
  simp [h0, h]
@[simp] theorem tyD_tt : tyD .tuple (.tup xs) = true := Eq.trans rfl rfl
@[simp] theorem tyD_ti : tyD .tuple (.int i) = false := Eq.trans rfl rfl
@[simp] theorem tyD_ts : tyD .tuple (.str s) = false := Eq.trans rfl rfl
@[simp] theorem tyD_bi : tyD .bool (.int i) = false := Eq.trans rfl rfl
@[simp] theorem tyD_ii : tyD .int (.int i) = true := Eq.trans rfl rfl
@[simp] theorem tyD_bs : tyD .bool (.str s) = false := Eq.trans rfl rfl
@[simp] theorem tyD_is : tyD .int (.str s) = false := Eq.trans rfl rfl
@[simp] theorem tyD_ss : tyD .str (.str s) = true := Eq.trans rfl rfl
@[simp] theorem tyD_bb (b : Bool) : tyD .bool (.bl b) = true := Eq.trans rfl rfl
@[simp] theorem tyD_tb (b : Bool) : tyD .tuple (.bl b) = false := Eq.trans rfl rfl
@[simp] theorem tyD_tn : tyD .tuple .non = false := Eq.trans rfl rfl
@[simp] theorem vwP_d (x : Dat) : vwP (.d x) = some x := Eq.trans rfl rfl
@[simp] theorem takeL_nil (σ : Sto) : takeL [] [] σ = some ([], σ) := Eq.trans rfl rfl
@[simp] theorem giveL_nil (σ0 σ : Sto) (ps : List PV) : giveL σ0 [] ps σ = σ := by cases ps <;> rfl
@[simp] theorem mkTup_d1 (a : Dat) : mkTup [.d a] = .d (.tup [a]) := Eq.trans rfl rfl
@[simp] theorem mkTup_d2 (a b : Dat) : mkTup [.d a, .d b] = .d (.tup [a, b]) := Eq.trans rfl rfl
@[simp] theorem mkTup_d3 (a b c : Dat) : mkTup [.d a, .d b, .d c] = .d (.tup [a, b, c]) := Eq.trans rfl rfl
@[simp] theorem mkTup_d4 (a b c d : Dat) : mkTup [.d a, .d b, .d c, .d d] = .d (.tup [a, b, c, d]) := Eq.trans rfl rfl
@[simp] theorem mkTup_d5 (a b c d e : Dat) : mkTup [.d a, .d b, .d c, .d d, .d e] = .d (.tup [a, b, c, d, e]) := Eq.trans rfl rfl
@[simp] theorem line_0 : (0 ≤ sizeLine) = True := by simp
@[simp] theorem line_1 : (1 ≤ sizeLine) = True := by simp [sizeLine_eq]
@[simp] theorem line_2 : (2 ≤ sizeLine) = True := by simp [sizeLine_eq]
@[simp] theorem line_3 : (3 ≤ sizeLine) = True := by simp [sizeLine_eq]
@[simp] theorem line_4 : (4 ≤ sizeLine) = True := by simp [sizeLine_eq]
@[simp] theorem line_5 : (5 ≤ sizeLine) = True := by simp [sizeLine_eq]
theorem le_line {n : Nat} (h : n ≤ 1000) : n ≤ sizeLine := by rw [sizeLine_eq]; omega
theorem lt_line {n : Nat} (h : n < 1000000) : n < sizeLine := by rw [sizeLine_eq]; omega
end
/-! ### lists of data, told by a function -/
def pl {α : Type} (f : α → Dat) (L : List α) : List PV := L.map fun x => .d (f x)
section
variable {α : Type} (f : α → Dat) (L : List α)
@[simp] theorem pl_all : allD (pl f L) = some (L.map f) := by
  unfold pl
  induction L with
  | nil => rfl
  | cons x r ih => simp [allD, ih]
@[simp] theorem pl_len : (pl f L).length = L.length := by simp [pl]
@[simp] theorem pl_push (x : α) : pl f L ++ [.d (f x)] = pl f (L ++ [x]) := by simp [pl]
@[simp] theorem pl_frzs : frzs (pl f L) = L.map f := by
  unfold pl
  induction L with
  | nil => rfl
  | cons x r ih => simp [ih]
@[simp] theorem pl_frz : PV.frz (.lst (pl f L)) = .lst (L.map f) := by simp [PV.frz]
@[simp] theorem pl_vw : vwP (.lst (pl f L)) = some (.lst (L.map f)) := by simp [vwP]
theorem pl_nil : pl f [] = [] := rfl
theorem pl_dl : dl (L.map f) = .lst (pl f L) := by simp [dl, pl, Function.comp_def]
@[simp] theorem meth_push (h : L.length < sizeLine) (x : α) : methP .append (.lst (pl f L)) [.d (f x)] = some (.d .non, .lst (pl f (L ++ [x]))) := by
  simp [methP, h]
theorem meth_pop (x : α) : methP .pop (.lst (pl f (L ++ [x]))) [] = some (.d (f x), .lst (pl f L)) := by
  simp [methP, pl]
end
/-! ### loops -/
@[simp] theorem go_r (f : Dat → Sto → FR) (lo st : Int) (n : Nat) (σ : Sto) : Its.go f (.r lo st n) σ = seqR f st n lo σ := Eq.trans rfl rfl
@[simp] theorem go_l (f : Dat → Sto → FR) (xs : List Dat) (σ : Sto) : Its.go f (.l xs) σ = seqL f xs σ := Eq.trans rfl rfl
@[simp] theorem comp_l (f : Dat → Sto → Res (Option PV)) (xs : List Dat) (σ : Sto) : Its.comp f (.l xs) σ = compL f xs [] σ := Eq.trans rfl rfl
@[simp] theorem comp_r (f : Dat → Sto → Res (Option PV)) (lo st : Int) (n : Nat) (σ : Sto) : Its.comp f (.r lo st n) σ = compR f st n lo [] σ := Eq.trans rfl rfl
@[simp] theorem its_seq (x : Dat) : itsOf .seq [x] = (seqD x).map .l := Eq.trans rfl rfl
@[simp] theorem seqD_t (xs : List Dat) : seqD (.tup xs) = some xs := Eq.trans rfl rfl
@[simp] theorem seqD_l (xs : List Dat) : seqD (.lst xs) = some xs := Eq.trans rfl rfl
@[simp] theorem seqD_s (xs : List Dat) : seqD (.scr xs) = some xs := Eq.trans rfl rfl
theorem its_range {i : Int} (h : -(2 ^ 62) ≤ i) (h2 : i < 2 ^ 62) : itsOf .range [.int i] = some (.r 0 1 i.toNat) := by
  show (if inR i then some (Its.r 0 1 i.toNat) else none) = _
  rw [if_pos (inR_mk h h2)]
theorem its_rangeN {n : Nat} (h : n < 2 ^ 62) : itsOf .range [.int (n : Int)] = some (.r 0 1 n) := by
  rw [its_range (by omega) (by omega)]
  simp
/-- a loop that always goes on: an invariant by the number of turns -/
theorem seqL_inv {f : Dat → Sto → FR} (P : Nat → Sto → Prop) : ∀ (xs : List Dat) (k : Nat) (σ : Sto), P k σ → (∀ (j : Nat) (x : Dat) (τ : Sto), xs[j]? = some x → P (k + j) τ → ∃ τ', (f x τ = .nx τ' ∨ f x τ = .cont τ') ∧ P (k + j + 1) τ') → ∃ σ', seqL f xs σ = .nx σ' ∧ P (k + xs.length) σ'
  | [], k, σ, h, _ => ⟨σ, rfl, h⟩
  | x :: xs, k, σ, h, st => by
    obtain ⟨τ, e, h1⟩ := st 0 x σ rfl h
    obtain ⟨σ', e2, h2⟩ := seqL_inv P xs (k + 1) τ h1 fun j y τ hj hp => by
      obtain ⟨τ', a, b⟩ := st (j + 1) y τ (by simpa using hj) (by rw [show k + (j + 1) = k + 1 + j from by omega]; exact hp)
      exact ⟨τ', a, by rw [show k + 1 + j + 1 = k + (j + 1) + 1 from by omega]; exact b⟩
    refine ⟨σ', ?_, by rw [List.length_cons, show k + (xs.length + 1) = k + 1 + xs.length from by omega]; exact h2⟩
    rcases e with e | e <;> simp [seqL, e, e2]
theorem seqR_inv {f : Dat → Sto → FR} {st : Int} (P : Nat → Sto → Prop) : ∀ (n : Nat) (k : Nat) (lo : Int) (σ : Sto), P k σ → (∀ (j : Nat) (τ : Sto), j < n → P (k + j) τ → ∃ τ', (f (.int (lo + j * st)) τ = .nx τ' ∨ f (.int (lo + j * st)) τ = .cont τ') ∧ P (k + j + 1) τ') → ∃ σ', seqR f st n lo σ = .nx σ' ∧ P (k + n) σ'
  | 0, k, lo, σ, h, _ => ⟨σ, rfl, h⟩
  | n + 1, k, lo, σ, h, s => by
    obtain ⟨τ, e, h1⟩ := s 0 σ (by omega) h
    have e0 : lo + ((0 : Nat) : Int) * st = lo := by simp
    rw [e0] at e
    obtain ⟨σ', e2, h2⟩ := seqR_inv P n (k + 1) (lo + st) τ h1 fun j τ hj hp => by
      obtain ⟨τ', a, b⟩ := s (j + 1) τ (by omega) (by rw [show k + (j + 1) = k + 1 + j from by omega]; exact hp)
      have e1 : lo + ((j + 1 : Nat) : Int) * st = lo + st + (j : Int) * st := by
        rw [Int.natCast_add, Int.add_mul]
        simp
        omega
      rw [e1] at a
      exact ⟨τ', a, by rw [show k + 1 + j + 1 = k + (j + 1) + 1 from by omega]; exact b⟩
    refine ⟨σ', ?_, by rw [show k + (n + 1) = k + 1 + n from by omega]; exact h2⟩
    rcases e with e | e <;> simp [seqR, e, e2]
/-- a comprehension that takes every item -/
theorem compL_all {f : Dat → Sto → Res (Option PV)} {P : Sto → Prop} {g : Dat → PV} : ∀ (xs : List Dat) (acc : List PV) (σ : Sto), P σ → (∀ x ∈ xs, ∀ τ, P τ → ∃ τ', f x τ = .ok (some (g x)) τ' ∧ P τ') → acc.length + xs.length ≤ sizeLine → ∃ σ', compL f xs acc σ = .ok (acc ++ xs.map g) σ' ∧ P σ'
  | [], acc, σ, h, _, _ => ⟨σ, by simp [compL], h⟩
  | x :: xs, acc, σ, h, st, hl => by
    obtain ⟨τ, e, h1⟩ := st x List.mem_cons_self σ h
    have hl' : acc.length < sizeLine := by simp at hl; omega
    obtain ⟨σ', e2, h2⟩ := compL_all (f := f) (P := P) (g := g) xs (acc ++ [g x]) τ h1 (fun y hy => st y (List.mem_cons_of_mem _ hy)) (by simp at hl ⊢; omega)
    exact ⟨σ', by simp [compL, e, hl', e2], h2⟩
end R

/-! B3: helpers that many laws have: a purse, taking from it, sameness. -/
namespace R
open PySem PySem.Spec L2
open PyProof.Rows hiding St
def b_take : List S := [
  .ite (.or (.cmp .eq (.bi .len [(.vw 0)]) (.lit (.int 0))) (.cmp .lt (.get 1) (.lit (.int 2)))) [
    .ret (.lit (.int 0))] [],
  .ret (.bin .mod (.bi .int [(.meth .pop 0 [])]) (.get 1))]
def f_take : FnD := ⟨2, 2, [], b_take⟩
theorem take_ok (C : CF) (fu : Nat) (L : List Int) (m : Int) : ∃ r L', runFn C fu f_take [.lst (pl .int L), .d (.int m)] = .ok (.d (.int r)) [.lst (pl .int L'), .d (.int m)] ∧ (m < 2 → r = 0) ∧ (2 ≤ m → 0 ≤ r ∧ r < m) := by
  by_cases hm : m < 2
  · refine ⟨0, L, ?_, fun _ => rfl, fun h => by omega⟩
    by_cases hl : L.length = 0
    · simp [runFn, f_take, b_take, hl, endC, retC, outA_eq]
    · simp [runFn, f_take, b_take, hl, hm, endC, retC, outA_eq]
  · rcases List.eq_nil_or_concat L with rfl | ⟨L0, z, rfl⟩
    · refine ⟨0, [], ?_, fun _ => rfl, fun h => by omega⟩
      simp [runFn, f_take, b_take, endC, retC, outA_eq]
    · refine ⟨z % m, L0, ?_, fun h => by omega, fun h => ⟨Int.emod_nonneg _ (by omega), Int.emod_lt_of_pos _ (by omega)⟩⟩
      have hm2 : 0 < m := by omega
      have h0 : ¬ ((L0.length : Int) + 1 = 0) := by omega
      simp [runFn, f_take, b_take, endC, retC, outA_eq, hm, meth_pop, binD_mod _ _ hm2, h0]
/-! ### sameness of data -/
mutual
/-- data whose sameness is told -/
def flatD : Dat → Bool
  | .non => true
  | .int _ => true
  | .bl _ => true
  | .str s => PyData.strOk s
  | .tup xs => flatDs xs
  | _ => false
def flatDs : List Dat → Bool
  | [] => true
  | x :: r => flatD x && flatDs r
end
mutual
def szD : Dat → Nat
  | .tup xs => 1 + szDs xs
  | _ => 1
def szDs : List Dat → Nat
  | [] => 0
  | x :: r => szD x + szDs r
end
def b_same : List S := [
  .set 2 (.lst [(.tup [(.get 0), (.get 1)])]),
  .for_ .range [(.lit (.int 900000))] (.n 3) [
    .ite (.cmp .eq (.bi .len [(.vw 2)]) (.lit (.int 0))) [
      .ret (.lit (.bl true))] [],
    .unp (.t [(.n 4), (.n 5)]) (.meth .pop 2 []),
    .ite (.isi (.vw 5) [.tuple]) [
      .ite (.or (.not (.isi (.vw 4) [.tuple])) (.cmp .ne (.bi .len [(.vw 4)]) (.bi .len [(.vw 5)]))) [
        .ret (.lit (.bl false))] [],
      .for_ .range [(.bi .len [(.vw 5)])] (.n 6) [
        .expr (.meth .append 2 [(.tup [(.idxv 4 (.get 6)), (.idxv 5 (.get 6))])])]] [
      .ite (.cmp .is (.get 5) (.lit .non)) [
        .ite (.cmp .isnot (.get 4) (.lit .non)) [
          .ret (.lit (.bl false))] []] [
        .ite (.isi (.vw 5) [.bool]) [
          .ite (.or (.not (.isi (.vw 4) [.bool])) (.cmp .ne (.get 4) (.vw 5))) [
            .ret (.lit (.bl false))] []] [
          .ite (.isi (.vw 5) [.int]) [
            .ite (.or (.not (.isi (.vw 4) [.int])) (.or (.isi (.vw 4) [.bool]) (.cmp .ne (.get 4) (.vw 5)))) [
              .ret (.lit (.bl false))] []] [
            .ite (.or (.not (.isi (.vw 5) [.str])) (.or (.not (.isi (.vw 4) [.str])) (.cmp .ne (.get 4) (.vw 5)))) [
              .ret (.lit (.bl false))] []]]]]],
  .ret (.lit (.bl false))]
def f_same : FnD := ⟨2, 7, [], b_same⟩
def dbl (x : Dat) : Dat := .tup [x, x]
theorem mkTup_dbl (x : Dat) : mkTup [.d x, .d x] = .d (dbl x) := rfl
theorem szD_pos (x : Dat) : 1 ≤ szD x := by
  cases x <;> simp [szD]
theorem szDs_append : ∀ (xs ys : List Dat), szDs (xs ++ ys) = szDs xs + szDs ys
  | [], ys => by simp [szDs]
  | x :: xs, ys => by simp [szDs, szDs_append xs ys]; omega
theorem szDs_len : ∀ xs : List Dat, xs.length ≤ szDs xs
  | [] => by simp [szDs]
  | x :: xs => by
    have := szD_pos x
    have := szDs_len xs
    simp [szDs]
    omega
theorem flatDs_append : ∀ (xs ys : List Dat), flatDs (xs ++ ys) = (flatDs xs && flatDs ys)
  | [], ys => by simp [flatDs]
  | x :: xs, ys => by simp [flatDs, flatDs_append xs ys, Bool.and_assoc]
theorem cmp_ne_bl (b : Bool) : cmpD .ne (.bl b) (.bl b) = some false := by
  cases b <;> rfl
theorem cmp_ne_str (s : Str) (h : PyData.strOk s = true) : cmpD .ne (.str s) (.str s) = some false := by
  simp [cmpD, eqD, noDic, eqOk, Dat.py, SeqAt.shaped, PyData.eqv, PyData.canLay0, PyData.depth, h]
/-- the inner loop: the parts go on the stack -/
theorem same_in (C : CF) (fu : Nat) (a b : PV) (x3 : Option PV) (xs : List Dat) (L : List Dat) (hl : L.length + xs.length < 1000000) (x6 : Option PV) :
    ∃ y6, seqR (turnF C fu (.n 6) [.expr (.meth .append 2 [(.tup [(.idxv 4 (.get 6)), (.idxv 5 (.get 6))])])]) 1 xs.length 0 [some a, some b, some (.lst (pl dbl L)), x3, some (.d (.tup xs)), some (.d (.tup xs)), x6] = .nx [some a, some b, some (.lst (pl dbl (L ++ xs))), x3, some (.d (.tup xs)), some (.d (.tup xs)), y6] := by
  obtain ⟨σ', e, h⟩ := seqR_inv (f := turnF C fu (.n 6) [.expr (.meth .append 2 [(.tup [(.idxv 4 (.get 6)), (.idxv 5 (.get 6))])])]) (st := 1)
    (fun k τ => k ≤ xs.length ∧ ∃ y6, τ = [some a, some b, some (.lst (pl dbl (L ++ xs.take k))), x3, some (.d (.tup xs)), some (.d (.tup xs)), y6]) xs.length 0 0
    [some a, some b, some (.lst (pl dbl L)), x3, some (.d (.tup xs)), some (.d (.tup xs)), x6] ⟨Nat.zero_le _, x6, by simp⟩ fun j τ hj hp => by
      obtain ⟨_, y6, rfl⟩ := hp
      have hat : L2.atI xs (j : Int) = some xs[j] := atI_nat hj
      have hlen : (L ++ xs.take (0 + j)).length < sizeLine := lt_line (by simp; omega)
      have tk : xs.take (0 + j + 1) = xs.take (0 + j) ++ [xs[j]] := by
        rw [Nat.zero_add, List.take_succ, List.getElem?_eq_getElem hj]
        rfl
      refine ⟨[some a, some b, some (.lst (pl dbl (L ++ xs.take (0 + j + 1)))), x3, some (.d (.tup xs)), some (.d (.tup xs)), some (.d (.int j))], .inl ?_, by omega, _, rfl⟩
      have hp := meth_push dbl _ hlen xs[j]
      rw [List.append_assoc, ← tk] at hp
      simp only [dbl, Nat.zero_add] at hp
      simp [turnF, hat, hp]
  obtain ⟨_, y6, rfl⟩ := h
  exact ⟨y6, by simpa using e⟩
def bS : List S := [
    .ite (.cmp .eq (.bi .len [(.vw 2)]) (.lit (.int 0))) [
      .ret (.lit (.bl true))] [],
    .unp (.t [(.n 4), (.n 5)]) (.meth .pop 2 []),
    .ite (.isi (.vw 5) [.tuple]) [
      .ite (.or (.not (.isi (.vw 4) [.tuple])) (.cmp .ne (.bi .len [(.vw 4)]) (.bi .len [(.vw 5)]))) [
        .ret (.lit (.bl false))] [],
      .for_ .range [(.bi .len [(.vw 5)])] (.n 6) [
        .expr (.meth .append 2 [(.tup [(.idxv 4 (.get 6)), (.idxv 5 (.get 6))])])]] [
      .ite (.cmp .is (.get 5) (.lit .non)) [
        .ite (.cmp .isnot (.get 4) (.lit .non)) [
          .ret (.lit (.bl false))] []] [
        .ite (.isi (.vw 5) [.bool]) [
          .ite (.or (.not (.isi (.vw 4) [.bool])) (.cmp .ne (.get 4) (.vw 5))) [
            .ret (.lit (.bl false))] []] [
          .ite (.isi (.vw 5) [.int]) [
            .ite (.or (.not (.isi (.vw 4) [.int])) (.or (.isi (.vw 4) [.bool]) (.cmp .ne (.get 4) (.vw 5)))) [
              .ret (.lit (.bl false))] []] [
            .ite (.or (.not (.isi (.vw 5) [.str])) (.or (.not (.isi (.vw 4) [.str])) (.cmp .ne (.get 4) (.vw 5)))) [
              .ret (.lit (.bl false))] []]]]]]
def kids : Dat → List Dat
  | .tup xs => xs
  | _ => []
theorem same_turn (C : CF) (fu : Nat) (a b : PV) (x : Dat) (L : List Dat) (lo : Int) (hf : flatD x = true) (hl : L.length + (kids x).length < 1000000) (x3 x4 x5 x6 : Option PV) :
    ∃ y3 y4 y5 y6, turnF C fu (.n 3) bS (.int lo) [some a, some b, some (.lst (pl dbl (L ++ [x]))), x3, x4, x5, x6] = .nx [some a, some b, some (.lst (pl dbl (L ++ kids x))), y3, y4, y5, y6] := by
  have hp := meth_pop dbl L x
  have h0 : ¬ ((L.length : Int) + 1 = 0) := by omega
  simp only [dbl] at hp
  cases x with
  | tup xs =>
    have hl' : L.length + xs.length < 1000000 := by simpa only [kids] using hl
    obtain ⟨y6, e⟩ := same_in C fu a b (some (.d (.int lo))) xs L hl' x6
    have hr : itsOf .range [.int (xs.length : Int)] = some (.r 0 1 xs.length) := its_rangeN (by omega)
    exact ⟨some (.d (.int lo)), some (.d (.tup xs)), some (.d (.tup xs)), y6, by simp [turnF, bS, hp, h0, hr, e, kids]⟩
  | non => exact ⟨some (.d (.int lo)), some (.d .non), some (.d .non), x6, by simp [turnF, bS, hp, h0, kids]⟩
  | int i => exact ⟨some (.d (.int lo)), some (.d (.int i)), some (.d (.int i)), x6, by simp [turnF, bS, hp, h0, kids]⟩
  | bl c => exact ⟨some (.d (.int lo)), some (.d (.bl c)), some (.d (.bl c)), x6, by simp [turnF, bS, hp, h0, kids, cmp_ne_bl]⟩
  | str z =>
    have hz : PyData.strOk z = true := by simpa [flatD] using hf
    exact ⟨some (.d (.int lo)), some (.d (.str z)), some (.d (.str z)), x6, by simp [turnF, bS, hp, h0, kids, cmp_ne_str z hz]⟩
  | lst _ => simp [flatD] at hf
  | dic _ _ => simp [flatD] at hf
  | set _ => simp [flatD] at hf
  | scr _ => simp [flatD] at hf
theorem same_loop (C : CF) (fu : Nat) (a b : PV) : ∀ (n : Nat) (lo : Int) (L : List Dat) (x3 x4 x5 x6 : Option PV), flatDs L = true → szDs L < n → szDs L < 900000 →
    ∃ y2 y3 y4 y5 y6, seqR (turnF C fu (.n 3) bS) 1 n lo [some a, some b, some (.lst (pl dbl L)), x3, x4, x5, x6] = .ret (.d (.bl true)) [some a, some b, y2, y3, y4, y5, y6]
  | 0, _, _, _, _, _, _, _, h, _ => by omega
  | n + 1, lo, L, x3, x4, x5, x6, hf, h, h9 => by
    rcases List.eq_nil_or_concat L with rfl | ⟨L0, x, rfl⟩
    · exact ⟨some (.lst (pl dbl [])), some (.d (.int lo)), x4, x5, x6, by simp [seqR, turnF, bS]⟩
    · have hx : flatD x = true ∧ flatDs L0 = true := by
        have := hf
        simp only [List.concat_eq_append] at this
        rw [flatDs_append, Bool.and_eq_true] at this
        exact ⟨by simpa [flatDs] using this.2, this.1⟩
      have hs : szDs (L0.concat x) = szDs L0 + szD x := by simp [szDs_append, szDs]
      have hk : flatDs (kids x) = true ∧ szDs (kids x) + 1 ≤ szD x := by
        cases x with
        | tup xs => exact ⟨by simpa [flatD, kids] using hx.1, by simp [kids, szD]; omega⟩
        | _ => exact ⟨by simp [kids, flatDs], by simp [kids, szDs, szD]⟩
      have hl1 := szDs_len L0
      have hl2 := szDs_len (kids x)
      obtain ⟨y3, y4, y5, y6, e⟩ := same_turn C fu a b x L0 lo hx.1 (by omega) x3 x4 x5 x6
      obtain ⟨z2, z3, z4, z5, z6, e2⟩ := same_loop C fu a b n (lo + 1) (L0 ++ kids x) y3 y4 y5 y6 (by rw [flatDs_append, hx.2, hk.1]; rfl) (by rw [szDs_append]; omega) (by rw [szDs_append]; omega)
      refine ⟨z2, z3, z4, z5, z6, ?_⟩
      rw [List.concat_eq_append, seqR, e]
      exact e2
theorem same_ok (C : CF) (fu : Nat) (d : Dat) (hf : flatD d = true) (hs : szD d < 899999) : runFn C fu f_same [.d d, .d d] = .ok (.d (.bl true)) [.d d, .d d] := by
  obtain ⟨y2, y3, y4, y5, y6, e⟩ := same_loop C fu (.d d) (.d d) 900000 0 [d] none none none none (by simp [flatDs, hf]) (by simp [szDs]; omega) (by simp [szDs]; omega)
  have hr : itsOf .range [.int 900000] = some (.r 0 1 900000) := rfl
  have e' : seqR (turnF C fu (.n 3) bS) 1 900000 0 [some (.d d), some (.d d), some (.lst [.d (.tup [d, d])]), none, none, none, none] = _ := e
  have hb : f_same = ⟨2, 7, [], [.set 2 (.lst [(.tup [(.get 0), (.get 1)])]), .for_ .range [(.lit (.int 900000))] (.n 3) bS, .ret (.lit (.bl false))]⟩ := rfl
  rw [hb]
  simp [runFn, endC, retC, outA_eq, hr, e']
end R

/-! B4: a purse. -/
namespace R
open PySem PySem.Spec L2
open PyProof.Rows hiding St
def bP : List S := [
    .set 5 (.bin .mod (.bi .int [(.bin .add (.bin .add (.bin .mul (.get 5) (.lit (.int 69621))) (.bin .mul (.get 7) (.lit (.int 30011)))) (.lit (.int 101)))]) (.lit (.int 2147483647))),
    .ite (.cmp .gt (.get 4) (.lit (.int 0))) [
      .expr (.meth .append 6 [(.bin .mod (.bi .int [(.vw 4)]) (.lit (.int 9973)))]),
      .set 4 (.bin .fdiv (.get 4) (.lit (.int 9973)))] [
      .expr (.meth .append 6 [(.bin .fdiv (.get 5) (.lit (.int 65536)))])]]
def b_purse : List S := [
  .set 3 (.ite (.cmp .gt (.bi .len [(.vw 0)]) (.lit (.int 0))) (.idxv 0 (.bin .mod (.get 1) (.bi .len [(.vw 0)]))) (.bin .mul (.lit (.int 3)) (.get 1))),
  .set 3 (.ite (.cmp .lt (.get 3) (.lit (.int 0))) (.neg (.get 3)) (.get 3)),
  .set 4 (.ite (.cmp .ge (.get 3) (.bin .pow (.lit (.int 10)) (.lit (.int 17)))) (.get 3) (.lit (.int 0))),
  .set 5 (.bin .mod (.bi .int [(.bin .add (.bin .add (.bin .mul (.get 3) (.lit (.int 69621))) (.bin .mul (.get 1) (.lit (.int 104729)))) (.lit (.int 17)))]) (.lit (.int 2147483647))),
  .set 6 (.lst []),
  .for_ .range [(.get 2)] (.n 7) bP,
  .ret (.revs (.vw 6))]
def f_purse : FnD := ⟨3, 8, [], b_purse⟩
theorem mul_small (x j : Int) (h : small j = true) : binD .mul (.int x) (.int j) = some (.d (.int (x * j))) := binD_mul x j (.inr h)
theorem mod_lit (x : Int) (j : Int) (h : 0 < j) : binD .mod (.int x) (.int j) = some (.d (.int (x % j))) := binD_mod x j h
theorem pow17 : binD .pow (.int 10) (.int 17) = some (.d (.int 100000000000000000)) := by rfl
theorem fdiv1 (x : Int) : binD .fdiv (.int x) (.int 9973) = some (.d (.int (x / 9973))) := binD_fdiv x 9973 (by decide) (by decide +kernel)
theorem fdiv2 (x : Int) : binD .fdiv (.int x) (.int 65536) = some (.d (.int (x / 65536))) := binD_fdiv x 65536 (by decide) (by decide +kernel)
theorem purse_turn (C : CF) (fu : Nat) (a0 a1 a2 a3 : Option PV) (rest mixed k : Int) (L : List Int) (y : Option PV) (hl : L.length < sizeLine) :
    ∃ rest' mixed' z, turnF C fu (.n 7) bP (.int k) [a0, a1, a2, a3, some (.d (.int rest)), some (.d (.int mixed)), some (.lst (pl .int L)), y] = .nx [a0, a1, a2, a3, some (.d (.int rest')), some (.d (.int mixed')), some (.lst (pl .int (L ++ [z]))), some (.d (.int k))] := by
  have e1 := mul_small mixed 69621 rfl
  have e2 := mul_small k 30011 rfl
  have e3 := mod_lit (mixed * 69621 + k * 30011 + 101) 2147483647 (by decide)
  have e4 := mod_lit rest 9973 (by decide)
  by_cases h : 0 < rest
  · exact ⟨rest / 9973, (mixed * 69621 + k * 30011 + 101) % 2147483647, rest % 9973, by simp [turnF, bP, e1, e2, e3, e4, h, fdiv1, meth_push Dat.int L hl]⟩
  · exact ⟨rest, (mixed * 69621 + k * 30011 + 101) % 2147483647, (mixed * 69621 + k * 30011 + 101) % 2147483647 / 65536, by simp [turnF, bP, e1, e2, e3, e4, h, fdiv2, meth_push Dat.int L hl]⟩
theorem purse_loop (C : CF) (fu : Nat) (a0 a1 a2 a3 : Option PV) (rest mixed : Int) (y : Option PV) (n : Nat) (hn : n < 1000000) :
    ∃ rest' mixed' L y', seqR (turnF C fu (.n 7) bP) 1 n 0 [a0, a1, a2, a3, some (.d (.int rest)), some (.d (.int mixed)), some (.lst (pl .int [])), y] = .nx [a0, a1, a2, a3, some (.d (.int rest')), some (.d (.int mixed')), some (.lst (pl .int L)), y'] := by
  obtain ⟨σ', e, h⟩ := seqR_inv (f := turnF C fu (.n 7) bP) (st := 1) (fun k τ => ∃ rest mixed L y, L.length = k ∧ k ≤ n ∧ τ = [a0, a1, a2, a3, some (.d (.int rest)), some (.d (.int mixed)), some (.lst (pl .int L)), y]) n 0 0 _ ⟨rest, mixed, [], y, rfl, Nat.zero_le _, rfl⟩ fun j τ hj hp => by
    obtain ⟨rest, mixed, L, y, hL, _, rfl⟩ := hp
    obtain ⟨r2, m2, z, e⟩ := purse_turn C fu a0 a1 a2 a3 rest mixed (0 + (j : Int) * 1) L y (lt_line (by omega))
    exact ⟨_, .inl e, r2, m2, L ++ [z], _, by simp; omega, by omega, rfl⟩
  obtain ⟨r, m, L, y, _, _, rfl⟩ := h
  exact ⟨r, m, L, y, e⟩
theorem purse_ok (C : CF) (fu : Nat) (ns : List Int) (salt : Int) (many : Nat) (hm : many < 1000000) : ∃ L, runFn C fu f_purse [.d (.scr (ns.map .int)), .d (.int salt), .d (.int many)] = .ok (.lst (pl .int L)) [.d (.scr (ns.map .int)), .d (.int salt), .d (.int many)] := by
  -- the cell
  have h1 : ∃ c : Int, ∀ (x3 x4 x5 x6 x7 : Option PV), execS C fu (.set 3 (.ite (.cmp .gt (.bi .len [(.vw 0)]) (.lit (.int 0))) (.idxv 0 (.bin .mod (.get 1) (.bi .len [(.vw 0)]))) (.bin .mul (.lit (.int 3)) (.get 1)))) [some (.d (.scr (ns.map .int))), some (.d (.int salt)), some (.d (.int many)), x3, x4, x5, x6, x7] = .nx [some (.d (.scr (ns.map .int))), some (.d (.int salt)), some (.d (.int many)), some (.d (.int c)), x4, x5, x6, x7] := by
    by_cases hz : ns.length = 0
    · have e1 : binD .mul (.int 3) (.int salt) = some (.d (.int (3 * salt))) := binD_mul 3 salt (.inl rfl)
      exact ⟨3 * salt, fun x3 x4 x5 x6 x7 => by simp [hz, e1]⟩
    · have hp : (0 : Int) < ns.length := by omega
      have e1 := binD_mod salt ns.length hp
      have k0 := Int.emod_nonneg salt (show (ns.length : Int) ≠ 0 by omega)
      have k1 := Int.emod_lt_of_pos salt hp
      have hk : (salt % ns.length).toNat < (ns.map Dat.int).length := by simp; omega
      have e2 : L2.atI (ns.map Dat.int) (salt % ns.length) = some (.int (ns[(salt % ns.length).toNat]'(by simpa using hk))) := by
        rw [atI_of k0 (by simpa using k1), List.getElem?_eq_getElem hk]
        simp
      have hp2 : 0 < ns.length := by omega
      exact ⟨ns[(salt % ns.length).toNat]'(by simpa using hk), fun x3 x4 x5 x6 x7 => by simp [hp2, e1, e2]⟩
  obtain ⟨c, h1⟩ := h1
  obtain ⟨c2, h2⟩ : ∃ c2 : Int, ∀ (a0 a1 a2 x4 x5 x6 x7 : Option PV), execS C fu (.set 3 (.ite (.cmp .lt (.get 3) (.lit (.int 0))) (.neg (.get 3)) (.get 3))) [a0, a1, a2, some (.d (.int c)), x4, x5, x6, x7] = .nx [a0, a1, a2, some (.d (.int c2)), x4, x5, x6, x7] := by
    by_cases h : c < 0
    · exact ⟨-c, fun _ _ _ _ _ _ _ => by simp [h]⟩
    · exact ⟨c, fun _ _ _ _ _ _ _ => by simp [h]⟩
  obtain ⟨c3, h3⟩ : ∃ c3 : Int, ∀ (a0 a1 a2 x4 x5 x6 x7 : Option PV), execS C fu (.set 4 (.ite (.cmp .ge (.get 3) (.bin .pow (.lit (.int 10)) (.lit (.int 17)))) (.get 3) (.lit (.int 0)))) [a0, a1, a2, some (.d (.int c2)), x4, x5, x6, x7] = .nx [a0, a1, a2, some (.d (.int c2)), some (.d (.int c3)), x5, x6, x7] := by
    by_cases h : c2 < 100000000000000000
    · exact ⟨0, fun _ _ _ _ _ _ _ => by simp [h, pow17]⟩
    · exact ⟨c2, fun _ _ _ _ _ _ _ => by simp [h, pow17]⟩
  have e1 := mul_small c2 69621 rfl
  have e2 := mul_small salt 104729 rfl
  have e3 := mod_lit (c2 * 69621 + salt * 104729 + 17) 2147483647 (by decide)
  have hr := its_rangeN (n := many) (by omega)
  obtain ⟨r, m, L, y, e4⟩ := purse_loop C fu (some (.d (.scr (ns.map .int)))) (some (.d (.int salt))) (some (.d (.int many))) (some (.d (.int c2))) c3 ((c2 * 69621 + salt * 104729 + 17) % 2147483647) none many hm
  refine ⟨L.reverse, ?_⟩
  have e5 : (PV.lst [] : PV) = .lst (pl .int []) := Eq.refl _
  have e6 : dl (L.map Dat.int).reverse = .lst (pl .int L.reverse) := by rw [← List.map_reverse, pl_dl]
  simp [runFn, f_purse, b_purse, h1, h2, h3, e1, e2, e3, hr, e5, e4, e6, endC, retC, outA_eq]
end R

/-! B5: membership among pairs of ints, sorted tuples of ints. -/
namespace R
open PySem PySem.Spec L2
open PyProof.Rows hiding St
def d2 (q : Int × Int) : Dat := .tup [.int q.1, .int q.2]
theorem noDics_map {α : Type} (f : α → Dat) (h : ∀ x, noDic (f x) = true) : ∀ L : List α, noDics (L.map f) = true
  | [] => rfl
  | x :: r => by simp [noDics, h x, noDics_map f h r]
theorem lay_d2 (q : Int × Int) : (d2 q).py.canLay0 = true ∧ (d2 q).py.depth = 1 := by
  constructor <;> simp [d2, Dat.py, pys, PyData.canLay0, PyData.canLayAll0, PyData.depth, PyData.depthAll]
theorem lays_d2 : ∀ P : List (Int × Int), PyData.canLayAll0 (pys (P.map d2)) = true ∧ PyData.depthAll (pys (P.map d2)) ≤ 1
  | [] => by simp [pys, PyData.canLayAll0, PyData.depthAll]
  | q :: P => by
    have h1 := lay_d2 q
    have h2 := lays_d2 P
    simp [pys, PyData.canLayAll0, PyData.depthAll, h1.1, h1.2, h2.1]
    have := h2.2
    omega
theorem mem_d2 (q : Int × Int) (P : List (Int × Int)) : ∃ b, cmpD .notmem (d2 q) (.lst (P.map d2)) = some b := by
  have h1 := lay_d2 q
  have h2 := lays_d2 P
  have e1 : noDic (d2 q) = true := rfl
  have e2 : noDics (P.map d2) = true := noDics_map d2 (fun _ => rfl) P
  have e3 : eqOk (d2 q) = true := by simp [eqOk, SeqAt.shaped, h1.1, h1.2]
  have e4 : eqOk (.lst (P.map d2)) = true := by
    have := h2.2
    simp [eqOk, SeqAt.shaped, Dat.py, PyData.canLay0, PyData.depth, h2.1]
    omega
  have e5 : memD (d2 q) (P.map d2) = some ((P.map d2).any fun z => PyData.eqv z.py (d2 q).py) := by
    unfold memD
    rw [e1, e2, e3, e4]
    rfl
  exact ⟨_, by
    show (memD (d2 q) (P.map d2)).map (!·) = _
    rw [e5]
    rfl⟩
/-! ### sorted rows of ints -/
theorem mem_insL {x : Dat} : ∀ {l : List Dat} {y : Dat}, y ∈ sortD.insL x l → y = x ∨ y ∈ l
  | [], y, h => by
    simp [sortD.insL] at h
    exact .inl h
  | z :: l, y, h => by
    rw [sortD.insL] at h
    split at h
    · rcases List.mem_cons.mp h with q | q
      · exact .inr (by rw [q]; exact List.mem_cons_self)
      · rcases mem_insL q with q | q
        · exact .inl q
        · exact .inr (List.mem_cons_of_mem _ q)
    · rcases List.mem_cons.mp h with q | q
      · exact .inl q
      · exact .inr q
theorem len_insL {x : Dat} : ∀ l : List Dat, (sortD.insL x l).length = l.length + 1
  | [] => rfl
  | z :: l => by
    rw [sortD.insL]
    split
    · rw [List.length_cons, len_insL l]
      rfl
    · rfl
theorem mem_sortD : ∀ {l : List Dat} {y : Dat}, y ∈ sortD l → y ∈ l
  | [], y, h => by simp [sortD] at h
  | x :: l, y, h => by
    rw [sortD] at h
    rcases mem_insL h with q | q
    · rw [q]
      exact List.mem_cons_self
    · exact List.mem_cons_of_mem _ (mem_sortD q)
theorem len_sortD : ∀ l : List Dat, (sortD l).length = l.length
  | [] => rfl
  | x :: l => by rw [sortD, len_insL, len_sortD l, List.length_cons]
theorem sort_map {α : Type} (f : α → Dat) (L : List α) : ∃ L' : List α, sortD (L.map f) = L'.map f ∧ L'.length = L.length := by
  have key : ∀ l : List Dat, (∀ y ∈ l, y ∈ L.map f) → ∃ L' : List α, l = L'.map f := by
    intro l
    induction l with
    | nil => exact fun _ => ⟨[], rfl⟩
    | cons y l ih =>
      intro h
      obtain ⟨x, _, ex⟩ := List.mem_map.mp (h y List.mem_cons_self)
      obtain ⟨L', e⟩ := ih fun z hz => h z (List.mem_cons_of_mem _ hz)
      exact ⟨x :: L', by rw [List.map_cons, ex, e]⟩
  obtain ⟨L', e⟩ := key (sortD (L.map f)) fun y hy => mem_sortD hy
  refine ⟨L', e, ?_⟩
  have := congrArg List.length e
  rw [len_sortD, List.length_map, List.length_map] at this
  exact this.symm
end R

namespace Law
open PySem L2 R
open PyProof.Rows hiding St
def top (i : Nat) : Stmt := PySem.Challenge.pw_roomtopass_k14_chains.main.body.getD i (.Pass ⟨0, 0, 0, 0⟩)
def ini (i : Nat) : Stmt := match top i with
  | .ClassDef _ _ _ body _ _ _ _ _ _ _ => body.getD 0 (.Pass ⟨0, 0, 0, 0⟩)
  | s => s
def p_peg_or_raise : PD := ⟨⟨("peg_or_raise", none), "peg_or_raise", "peg_or_raise", defArgs (top 7), defBody (top 7), defScope (top 7), [], []⟩, ["plan", "peg"], ["plan", "peg"], []⟩
def p_room : PD := ⟨⟨("room", none), "room", "room", defArgs (top 9), defBody (top 9), defScope (top 9), [], []⟩, ["p", "q", "across", "rows"], ["p", "q"], []⟩
def p_room_rows : PD := ⟨⟨("room_rows", none), "room_rows", "room_rows", defArgs (top 10), defBody (top 10), defScope (top 10), [], []⟩, ["plan", "pegs", "p", "q"], ["plan"], []⟩
def p_real_span : PD := ⟨⟨("real_span", none), "real_span", "real_span", defArgs (top 11), defBody (top 11), defScope (top 11), [], []⟩, ["plan", "gate", "hose", "_", "low", "high"], ["plan", "gate"], []⟩
def p_level_gap : PD := ⟨⟨("level_gap", none), "level_gap", "level_gap", defArgs (top 12), defBody (top 12), defScope (top 12), [], []⟩, ["level", "y"], ["level", "y"], []⟩
def p_gate_least : PD := ⟨⟨("gate_least", none), "gate_least", "gate_least", defArgs (top 14), defBody (top 14), defScope (top 14), [], []⟩, ["gate", "span", "peg", "gap", "across"], ["gate", "span", "peg"], []⟩
def p_gate_most : PD := ⟨⟨("gate_most", none), "gate_most", "gate_most", defArgs (top 15), defBody (top 15), defScope (top 15), [], []⟩, ["gate", "span", "peg", "gap", "across"], ["gate", "span", "peg"], []⟩
def p_bounds_of : PD := ⟨⟨("bounds_of", none), "bounds_of", "bounds_of", defArgs (top 16), defBody (top 16), defScope (top 16), [], []⟩, ["plan", "peg", "columns", "_", "hoses", "gates", "least", "most", "gate", "span"], ["plan", "peg"], []⟩
def p_bound_list : PD := ⟨⟨("bound_list", none), "bound_list", "bound_list", defArgs (top 17), defBody (top 17), defScope (top 17), [], []⟩, ["plan", "peg"], ["plan"], []⟩
def p_is_integer : PD := ⟨⟨("is_integer", none), "is_integer", "is_integer", defArgs (top 19), defBody (top 19), defScope (top 19), [], []⟩, ["thing"], ["thing"], []⟩
def p_integer_within : PD := ⟨⟨("integer_within", none), "integer_within", "integer_within", defArgs (top 20), defBody (top 20), defScope (top 20), [], []⟩, ["thing", "low", "high"], ["thing", "low", "high"], []⟩
def p_chain_fault : PD := ⟨⟨("chain_fault", none), "chain_fault", "chain_fault", defArgs (top 22), defBody (top 22), defScope (top 22), [], []⟩, ["plan", "thing", "at", "peg"], ["plan", "thing"], []⟩
def p_check_chain : PD := ⟨⟨("check_chain", none), "check_chain", "check_chain", defArgs (top 23), defBody (top 23), defScope (top 23), [], []⟩, ["plan", "thing", "fault"], ["plan", "thing"], []⟩
def p_chain_room : PD := ⟨⟨("chain_room", none), "chain_room", "chain_room", defArgs (top 24), defBody (top 24), defScope (top 24), [], []⟩, ["plan", "chain", "pegs", "p", "q"], ["plan", "chain"], []⟩
def p_is_short : PD := ⟨⟨("is_short", none), "is_short", "is_short", defArgs (top 25), defBody (top 25), defScope (top 25), [], []⟩, ["plan", "chain", "bounds"], ["plan", "chain"], []⟩
def p_nearest_left : PD := ⟨⟨("nearest_left", none), "nearest_left", "nearest_left", defArgs (top 26), defBody (top 26), defScope (top 26), [], []⟩, ["far", "done", "left", "peg", "many"], ["far", "done"], []⟩
def p_rooms_from : PD := ⟨⟨("rooms_from", none), "rooms_from", "rooms_from", defArgs (top 27), defBody (top 27), defScope (top 27), [], []⟩, ["rows", "p", "far", "came", "done", "peg", "q", "more"], ["rows", "p"], []⟩
def p_chain_to : PD := ⟨⟨("chain_to", none), "chain_to", "chain_to", defArgs (top 28), defBody (top 28), defScope (top 28), [], []⟩, ["came", "q", "chain"], ["came", "q"], []⟩
def p_least_room : PD := ⟨⟨("least_room", none), "least_room", "least_room", defArgs (top 29), defBody (top 29), defScope (top 29), [], []⟩, ["plan", "p", "q"], ["plan", "p", "q"], []⟩
def p_least_chain : PD := ⟨⟨("least_chain", none), "least_chain", "least_chain", defArgs (top 30), defBody (top 30), defScope (top 30), [], []⟩, ["plan", "p", "q"], ["plan", "p", "q"], []⟩
def p__law_purse : PD := ⟨⟨("_law_purse", none), "_law_purse", "_law_purse", defArgs (top 32), defBody (top 32), defScope (top 32), [], []⟩, ["script", "salt", "many", "cell", "rest", "mixed", "purse", "k"], ["script", "salt", "many"], []⟩
def p__law_take : PD := ⟨⟨("_law_take", none), "_law_take", "_law_take", defArgs (top 33), defBody (top 33), defScope (top 33), [], []⟩, ["purse", "many"], ["purse", "many"], []⟩
def p__law_same : PD := ⟨⟨("_law_same", none), "_law_same", "_law_same", defArgs (top 34), defBody (top 34), defScope (top 34), [], []⟩, ["told", "due", "stack", "count", "left", "right", "k"], ["told", "due"], []⟩
def p__law_whole : PD := ⟨⟨("_law_whole", none), "_law_whole", "_law_whole", defArgs (top 35), defBody (top 35), defScope (top 35), [], []⟩, ["thing"], ["thing"], []⟩
def p__law_plan : PD := ⟨⟨("_law_plan", none), "_law_plan", "_law_plan", defArgs (top 36), defBody (top 36), defScope (top 36), [], []⟩, ["purse", "columns", "rows", "hoses", "pegs", "gates", "told", "places", "lap", "x", "y", "low", "doors", "hose", "level"], ["purse", "columns", "rows", "hoses", "pegs", "gates"], []⟩
def p__law_room : PD := ⟨⟨("_law_room", none), "_law_room", "_law_room", defArgs (top 37), defBody (top 37), defScope (top 37), [], []⟩, ["p", "q", "across", "rows"], ["p", "q"], []⟩
def p__law_real : PD := ⟨⟨("_law_real", none), "_law_real", "_law_real", defArgs (top 38), defBody (top 38), defScope (top 38), [], []⟩, ["plan", "gate"], ["plan", "gate"], []⟩
def p__law_bounds : PD := ⟨⟨("_law_bounds", none), "_law_bounds", "_law_bounds", defArgs (top 39), defBody (top 39), defScope (top 39), [], []⟩, ["plan", "found", "x", "y", "low", "high", "least", "most", "gate", "first", "last", "apart"], ["plan"], []⟩
def p__law_sum : PD := ⟨⟨("_law_sum", none), "_law_sum", "_law_sum", defArgs (top 40), defBody (top 40), defScope (top 40), [], []⟩, ["plan", "chain", "k"], ["plan", "chain"], []⟩
def p__law_least : PD := ⟨⟨("_law_least", none), "_law_least", "_law_least", defArgs (top 41), defBody (top 41), defScope (top 41), [], []⟩, ["plan", "p", "many", "rooms", "settled", "lap", "best", "q", "far"], ["plan", "p"], []⟩
def p__law_due : PD := ⟨⟨("_law_due", none), "_law_due", "_law_due", defArgs (top 42), defBody (top 42), defScope (top 42), [], []⟩, ["plan", "thing", "at"], ["plan", "thing"], []⟩
def p__law_told : PD := ⟨⟨("_law_told", none), "_law_told", "_law_told", defArgs (top 43), defBody (top 43), defScope (top 43), [], []⟩, ["plan", "thing", "error"], ["plan", "thing"], []⟩
def p__law_told_least : PD := ⟨⟨("_law_told_least", none), "_law_told_least", "_law_told_least", defArgs (top 44), defBody (top 44), defScope (top 44), [], []⟩, ["plan", "p", "q", "error"], ["plan", "p", "q"], []⟩
def p__law_told_chain : PD := ⟨⟨("_law_told_chain", none), "_law_told_chain", "_law_told_chain", defArgs (top 45), defBody (top 45), defScope (top 45), [], []⟩, ["plan", "p", "q", "error"], ["plan", "p", "q"], []⟩
def p__law_is_chain : PD := ⟨⟨("_law_is_chain", none), "_law_is_chain", "_law_is_chain", defArgs (top 46), defBody (top 46), defScope (top 46), [], []⟩, ["plan", "told", "p", "q", "room_v"], ["plan", "told", "p", "q", "room_v"], []⟩
def p__law_chain : PD := ⟨⟨("_law_chain", none), "_law_chain", "_law_chain", defArgs (top 47), defBody (top 47), defScope (top 47), [], []⟩, ["purse", "many", "size", "rest", "chain", "lap"], ["purse", "many", "size"], []⟩
def p__law_looked_at : PD := ⟨⟨("_law_looked_at", none), "_law_looked_at", "_law_looked_at", defArgs (top 48), defBody (top 48), defScope (top 48), [], []⟩, ["plan", "chain", "bounds", "room_v"], ["plan", "chain", "bounds"], []⟩
def p__law_things : PD := ⟨⟨("_law_things", none), "_law_things", "_law_things", defArgs (top 49), defBody (top 49), defScope (top 49), [], []⟩, ["purse", "plan", "chain", "at", "other", "things"], ["purse", "plan", "chain"], []⟩
def p__law_scene : PD := ⟨⟨("_law_scene", none), "_law_scene", "_law_scene", defArgs (top 50), defBody (top 50), defScope (top 50), [], []⟩, ["purse", "plan", "laps", "many", "bounds", "told", "lap", "chain", "thing", "p", "q", "rooms"], ["purse", "plan", "laps"], []⟩
def p__law_by_hand : PD := ⟨⟨("_law_by_hand", none), "_law_by_hand", "_law_by_hand", defArgs (top 51), defBody (top 51), defScope (top 51), [], []⟩, ["step", "pegs", "plan", "tight", "loose", "k"], ["step"], []⟩
def p_law : PD := ⟨⟨("law", none), "law", "law", defArgs (top 52), defBody (top 52), defScope (top 52), [], []⟩, ["script", "purse", "lap", "columns", "rows", "hoses", "wide"], ["script"], []⟩
def i_BadChain : PD := ⟨⟨("BadChain", some "__init__"), "__init__", "BadChain.__init__", defArgs (ini 4), defBody (ini 4), defScope (ini 4), [], []⟩, ["self", "at", "word"], ["self", "at", "word"], []⟩
def i_BadStep : PD := ⟨⟨("BadStep", some "__init__"), "__init__", "BadStep.__init__", defArgs (ini 5), defBody (ini 5), defScope (ini 5), [], []⟩, ["self", "word"], ["self", "word"], []⟩
def pds : List PD := (p_peg_or_raise :: p_room :: p_room_rows :: p_real_span :: p_level_gap :: p_gate_least :: p_gate_most :: p_bounds_of :: p_bound_list :: p_is_integer :: p_integer_within :: p_chain_fault :: p_check_chain :: p_chain_room :: p_is_short :: p_nearest_left :: p_rooms_from :: p_chain_to :: p_least_room :: p_least_chain :: p__law_purse :: p__law_take :: p__law_same :: p__law_whole :: p__law_plan :: p__law_room :: p__law_real :: p__law_bounds :: p__law_sum :: p__law_least :: p__law_due :: p__law_told :: p__law_told_least :: p__law_told_chain :: p__law_is_chain :: p__law_chain :: p__law_looked_at :: p__law_things :: p__law_scene :: p__law_by_hand :: p_law :: [])
def inits : List PD := [i_BadChain, i_BadStep]
def pc : PC := ⟨("peg_or_raise" :: "room" :: "room_rows" :: "real_span" :: "level_gap" :: "gate_least" :: "gate_most" :: "bounds_of" :: "bound_list" :: "is_integer" :: "integer_within" :: "chain_fault" :: "check_chain" :: "chain_room" :: "is_short" :: "nearest_left" :: "rooms_from" :: "chain_to" :: "least_room" :: "least_chain" :: "_law_purse" :: "_law_take" :: "_law_same" :: "_law_whole" :: "_law_plan" :: "_law_room" :: "_law_real" :: "_law_bounds" :: "_law_sum" :: "_law_least" :: "_law_due" :: "_law_told" :: "_law_told_least" :: "_law_told_chain" :: "_law_is_chain" :: "_law_chain" :: "_law_looked_at" :: "_law_things" :: "_law_scene" :: "_law_by_hand" :: "law" :: []), ["len", "abs", "int", "str", "tuple", "list", "sorted", "sum", "min", "max", "isinstance", "range", "enumerate", "zip", "bool"], [("BadChain", ["at", "word"]), ("BadStep", ["word"])], [("BadChain", [("BadChain", true), ("BadStep", false)]), ("BadStep", [("BadChain", false), ("BadStep", true)])], [], [], [], [], [("nearest_left", ["done"]), ("rooms_from", ["done"])], [("nearest_left", ["far"])]⟩
def loose : List Str := ("HoseError" :: "DataError" :: "CallError" :: "BadChain" :: "BadStep" :: "peg_or_raise" :: "room" :: "room_rows" :: "real_span" :: "level_gap" :: "gate_least" :: "gate_most" :: "bounds_of" :: "bound_list" :: "is_integer" :: "integer_within" :: "chain_fault" :: "check_chain" :: "chain_room" :: "is_short" :: "nearest_left" :: "rooms_from" :: "chain_to" :: "least_room" :: "least_chain" :: "_law_purse" :: "_law_take" :: "_law_same" :: "_law_whole" :: "_law_plan" :: "_law_room" :: "_law_real" :: "_law_bounds" :: "_law_sum" :: "_law_least" :: "_law_due" :: "_law_told" :: "_law_told_least" :: "_law_told_chain" :: "_law_is_chain" :: "_law_chain" :: "_law_looked_at" :: "_law_things" :: "_law_scene" :: "_law_by_hand" :: [])
theorem bd_peg_or_raise : BindOk p_peg_or_raise := fun _ _ _ _ _ _ us hl => match us, hl with | [_, _], _ => rfl
theorem bd_room : BindOk p_room := fun _ _ _ _ _ _ us hl => match us, hl with | [_, _], _ => rfl
theorem bd_room_rows : BindOk p_room_rows := fun _ _ _ _ _ _ us hl => match us, hl with | [_], _ => rfl
theorem bd_real_span : BindOk p_real_span := fun _ _ _ _ _ _ us hl => match us, hl with | [_, _], _ => rfl
theorem bd_level_gap : BindOk p_level_gap := fun _ _ _ _ _ _ us hl => match us, hl with | [_, _], _ => rfl
theorem bd_gate_least : BindOk p_gate_least := fun _ _ _ _ _ _ us hl => match us, hl with | [_, _, _], _ => rfl
theorem bd_gate_most : BindOk p_gate_most := fun _ _ _ _ _ _ us hl => match us, hl with | [_, _, _], _ => rfl
theorem bd_bounds_of : BindOk p_bounds_of := fun _ _ _ _ _ _ us hl => match us, hl with | [_, _], _ => rfl
theorem bd_bound_list : BindOk p_bound_list := fun _ _ _ _ _ _ us hl => match us, hl with | [_], _ => rfl
theorem bd_is_integer : BindOk p_is_integer := fun _ _ _ _ _ _ us hl => match us, hl with | [_], _ => rfl
theorem bd_integer_within : BindOk p_integer_within := fun _ _ _ _ _ _ us hl => match us, hl with | [_, _, _], _ => rfl
theorem bd_chain_fault : BindOk p_chain_fault := fun _ _ _ _ _ _ us hl => match us, hl with | [_, _], _ => rfl
theorem bd_check_chain : BindOk p_check_chain := fun _ _ _ _ _ _ us hl => match us, hl with | [_, _], _ => rfl
theorem bd_chain_room : BindOk p_chain_room := fun _ _ _ _ _ _ us hl => match us, hl with | [_, _], _ => rfl
theorem bd_is_short : BindOk p_is_short := fun _ _ _ _ _ _ us hl => match us, hl with | [_, _], _ => rfl
theorem bd_nearest_left : BindOk p_nearest_left := fun _ _ _ _ _ _ us hl => match us, hl with | [_, _], _ => rfl
theorem bd_rooms_from : BindOk p_rooms_from := fun _ _ _ _ _ _ us hl => match us, hl with | [_, _], _ => rfl
theorem bd_chain_to : BindOk p_chain_to := fun _ _ _ _ _ _ us hl => match us, hl with | [_, _], _ => rfl
theorem bd_least_room : BindOk p_least_room := fun _ _ _ _ _ _ us hl => match us, hl with | [_, _, _], _ => rfl
theorem bd_least_chain : BindOk p_least_chain := fun _ _ _ _ _ _ us hl => match us, hl with | [_, _, _], _ => rfl
theorem bd__law_purse : BindOk p__law_purse := fun _ _ _ _ _ _ us hl => match us, hl with | [_, _, _], _ => rfl
theorem bd__law_take : BindOk p__law_take := fun _ _ _ _ _ _ us hl => match us, hl with | [_, _], _ => rfl
theorem bd__law_same : BindOk p__law_same := fun _ _ _ _ _ _ us hl => match us, hl with | [_, _], _ => rfl
theorem bd__law_whole : BindOk p__law_whole := fun _ _ _ _ _ _ us hl => match us, hl with | [_], _ => rfl
theorem bd__law_plan : BindOk p__law_plan := fun _ _ _ _ _ _ us hl => match us, hl with | [_, _, _, _, _, _], _ => rfl
theorem bd__law_room : BindOk p__law_room := fun _ _ _ _ _ _ us hl => match us, hl with | [_, _], _ => rfl
theorem bd__law_real : BindOk p__law_real := fun _ _ _ _ _ _ us hl => match us, hl with | [_, _], _ => rfl
theorem bd__law_bounds : BindOk p__law_bounds := fun _ _ _ _ _ _ us hl => match us, hl with | [_], _ => rfl
theorem bd__law_sum : BindOk p__law_sum := fun _ _ _ _ _ _ us hl => match us, hl with | [_, _], _ => rfl
theorem bd__law_least : BindOk p__law_least := fun _ _ _ _ _ _ us hl => match us, hl with | [_, _], _ => rfl
theorem bd__law_due : BindOk p__law_due := fun _ _ _ _ _ _ us hl => match us, hl with | [_, _], _ => rfl
theorem bd__law_told : BindOk p__law_told := fun _ _ _ _ _ _ us hl => match us, hl with | [_, _], _ => rfl
theorem bd__law_told_least : BindOk p__law_told_least := fun _ _ _ _ _ _ us hl => match us, hl with | [_, _, _], _ => rfl
theorem bd__law_told_chain : BindOk p__law_told_chain := fun _ _ _ _ _ _ us hl => match us, hl with | [_, _, _], _ => rfl
theorem bd__law_is_chain : BindOk p__law_is_chain := fun _ _ _ _ _ _ us hl => match us, hl with | [_, _, _, _, _], _ => rfl
theorem bd__law_chain : BindOk p__law_chain := fun _ _ _ _ _ _ us hl => match us, hl with | [_, _, _], _ => rfl
theorem bd__law_looked_at : BindOk p__law_looked_at := fun _ _ _ _ _ _ us hl => match us, hl with | [_, _, _], _ => rfl
theorem bd__law_things : BindOk p__law_things := fun _ _ _ _ _ _ us hl => match us, hl with | [_, _, _], _ => rfl
theorem bd__law_scene : BindOk p__law_scene := fun _ _ _ _ _ _ us hl => match us, hl with | [_, _, _], _ => rfl
theorem bd__law_by_hand : BindOk p__law_by_hand := fun _ _ _ _ _ _ us hl => match us, hl with | [_], _ => rfl
theorem bd_law : BindOk p_law := fun _ _ _ _ _ _ us hl => match us, hl with | [_], _ => rfl
theorem bi_BadChain : BindOk i_BadChain := fun _ _ _ _ _ _ us hl => match us, hl with | [_, _, _], _ => rfl
theorem bi_BadStep : BindOk i_BadStep := fun _ _ _ _ _ _ us hl => match us, hl with | [_, _], _ => rfl
theorem allB : AllB pds := allB_cons bd_peg_or_raise (allB_cons bd_room (allB_cons bd_room_rows (allB_cons bd_real_span (allB_cons bd_level_gap (allB_cons bd_gate_least (allB_cons bd_gate_most (allB_cons bd_bounds_of (allB_cons bd_bound_list (allB_cons bd_is_integer (allB_cons bd_integer_within (allB_cons bd_chain_fault (allB_cons bd_check_chain (allB_cons bd_chain_room (allB_cons bd_is_short (allB_cons bd_nearest_left (allB_cons bd_rooms_from (allB_cons bd_chain_to (allB_cons bd_least_room (allB_cons bd_least_chain (allB_cons bd__law_purse (allB_cons bd__law_take (allB_cons bd__law_same (allB_cons bd__law_whole (allB_cons bd__law_plan (allB_cons bd__law_room (allB_cons bd__law_real (allB_cons bd__law_bounds (allB_cons bd__law_sum (allB_cons bd__law_least (allB_cons bd__law_due (allB_cons bd__law_told (allB_cons bd__law_told_least (allB_cons bd__law_told_chain (allB_cons bd__law_is_chain (allB_cons bd__law_chain (allB_cons bd__law_looked_at (allB_cons bd__law_things (allB_cons bd__law_scene (allB_cons bd__law_by_hand (allB_cons bd_law (allB_nil)))))))))))))))))))))))))))))))))))))))))
theorem allBi : AllB inits := allB_cons bi_BadChain (allB_cons bi_BadStep (allB_nil))
theorem allK : AllK pc.kw pds := allK_cons (kwOk_no (by decide +kernel)) (allK_cons (kwOk_no (by decide +kernel)) (allK_cons (kwOk_no (by decide +kernel)) (allK_cons (kwOk_no (by decide +kernel)) (allK_cons (kwOk_no (by decide +kernel)) (allK_cons (kwOk_no (by decide +kernel)) (allK_cons (kwOk_no (by decide +kernel)) (allK_cons (kwOk_no (by decide +kernel)) (allK_cons (kwOk_no (by decide +kernel)) (allK_cons (kwOk_no (by decide +kernel)) (allK_cons (kwOk_no (by decide +kernel)) (allK_cons (kwOk_no (by decide +kernel)) (allK_cons (kwOk_no (by decide +kernel)) (allK_cons (kwOk_no (by decide +kernel)) (allK_cons (kwOk_no (by decide +kernel)) (allK_cons (kwOk_no (by decide +kernel)) (allK_cons (kwOk_no (by decide +kernel)) (allK_cons (kwOk_no (by decide +kernel)) (allK_cons (kwOk_no (by decide +kernel)) (allK_cons (kwOk_no (by decide +kernel)) (allK_cons (kwOk_no (by decide +kernel)) (allK_cons (kwOk_no (by decide +kernel)) (allK_cons (kwOk_no (by decide +kernel)) (allK_cons (kwOk_no (by decide +kernel)) (allK_cons (kwOk_no (by decide +kernel)) (allK_cons (kwOk_no (by decide +kernel)) (allK_cons (kwOk_no (by decide +kernel)) (allK_cons (kwOk_no (by decide +kernel)) (allK_cons (kwOk_no (by decide +kernel)) (allK_cons (kwOk_no (by decide +kernel)) (allK_cons (kwOk_no (by decide +kernel)) (allK_cons (kwOk_no (by decide +kernel)) (allK_cons (kwOk_no (by decide +kernel)) (allK_cons (kwOk_no (by decide +kernel)) (allK_cons (kwOk_no (by decide +kernel)) (allK_cons (kwOk_no (by decide +kernel)) (allK_cons (kwOk_no (by decide +kernel)) (allK_cons (kwOk_no (by decide +kernel)) (allK_cons (kwOk_no (by decide +kernel)) (allK_cons (kwOk_no (by decide +kernel)) (allK_cons (kwOk_no (by decide +kernel)) (allK_nil)))))))))))))))))))))))))))))))))))))))))
theorem fit : fitB pc pds inits = true := by decide +kernel
def b_peg_or_raise : List S := [
  .ite (.not (.chain .le .lt (.lit (.int 0)) (.get 1) (.bi .len [(.idxv 0 (.lit (.int 3)))]))) [
    .raise "BadStep" ["word"] [(.lit (.str "peg"))]] []]
def f_peg_or_raise : FnD := ⟨2, 2, [], b_peg_or_raise⟩
theorem c_peg_or_raise : cFn pc p_peg_or_raise = some f_peg_or_raise := by kernel_rfl
def b_room : List S := [
  .par [2, 3] [(.bin .sub (.idxv 1 (.lit (.int 0))) (.idxv 0 (.lit (.int 0)))), (.bi .abs [(.bin .sub (.idxv 1 (.lit (.int 1))) (.idxv 0 (.lit (.int 1))))])],
  .ite (.cmp .gt (.get 2) (.lit (.int 0))) [
    .ret (.bin .sub (.bi .max2 [(.get 2), (.get 3)]) (.lit (.int 1)))] [],
  .ret (.ite (.cmp .eq (.get 2) (.lit (.int 0))) (.bin .sub (.get 3) (.lit (.int 1))) (.bi .max2 [(.bin .sub (.get 3) (.lit (.int 1))), (.lit (.int 0))]))]
def f_room : FnD := ⟨2, 4, [], b_room⟩
theorem c_room : cFn pc p_room = some f_room := by kernel_rfl
def b_room_rows : List S := [
  .set 1 (.idxv 0 (.lit (.int 3))),
  .ret (.comp .seq [(.get 1)] (.n 2) [] [2] (.comp .seq [(.get 1)] (.n 3) [] [3] (.ite (.cmp .eq (.get 2) (.vw 3)) (.lit (.int 0)) (.call 1 [.lend 2, .lend 3]))))]
def f_room_rows : FnD := ⟨1, 4, [], b_room_rows⟩
theorem c_room_rows : cFn pc p_room_rows = some f_room_rows := by kernel_rfl
def b_real_span : List S := [
  .unp (.t [(.n 2), (.n 3), (.n 4), (.n 5)]) (.get 1),
  .ret (.tup [(.bi .max2 [(.get 4), (.get 2)]), (.bi .min2 [(.get 5), (.bin .add (.bin .sub (.idxv 0 (.lit (.int 0))) (.idxv 0 (.lit (.int 2)))) (.get 2))])])]
def f_real_span : FnD := ⟨2, 6, [], b_real_span⟩
theorem c_real_span : cFn pc p_real_span = some f_real_span := by kernel_rfl
def b_level_gap : List S := [
  .ret (.bi .min2 [(.bi .abs [(.bin .sub (.get 1) (.get 0))]), (.bi .abs [(.bin .sub (.get 1) (.bin .sub (.get 0) (.lit (.int 1))))])])]
def f_level_gap : FnD := ⟨2, 2, [], b_level_gap⟩
theorem c_level_gap : cFn pc p_level_gap = some f_level_gap := by kernel_rfl
def b_gate_least : List S := [
  .set 3 (.call 4 [(.idxv 0 (.lit (.int 1))), (.idxv 2 (.lit (.int 1)))]),
  .set 4 (.bin .sub (.idxv 1 (.lit (.int 1))) (.idxv 2 (.lit (.int 0)))),
  .ret (.bin .sub (.bin .add (.idxv 0 (.lit (.int 0))) (.lit (.int 1))) (.ite (.cmp .ge (.get 4) (.lit (.int 0))) (.bi .max2 [(.get 4), (.get 3)]) (.get 3)))]
def f_gate_least : FnD := ⟨3, 5, [], b_gate_least⟩
theorem c_gate_least : cFn pc p_gate_least = some f_gate_least := by kernel_rfl
def b_gate_most : List S := [
  .set 3 (.call 4 [(.idxv 0 (.lit (.int 1))), (.idxv 2 (.lit (.int 1)))]),
  .set 4 (.bin .sub (.idxv 2 (.lit (.int 0))) (.idxv 1 (.lit (.int 0)))),
  .ret (.bin .add (.idxv 0 (.lit (.int 0))) (.ite (.cmp .ge (.get 4) (.lit (.int 0))) (.bi .max2 [(.get 4), (.get 3)]) (.get 3)))]
def f_gate_most : FnD := ⟨3, 5, [], b_gate_most⟩
theorem c_gate_most : cFn pc p_gate_most = some f_gate_most := by kernel_rfl
def b_bounds_of : List S := [
  .unp (.t [(.n 2), (.n 3), (.n 4), (.n 3), (.n 5)]) (.get 0),
  .set 6 (.bi .max2 [(.idxv 1 (.lit (.int 2))), (.bin .sub (.get 4) (.bin .sub (.bin .sub (.get 2) (.lit (.int 1))) (.idxv 1 (.lit (.int 0)))))]),
  .set 7 (.bi .min2 [(.idxv 1 (.lit (.int 3))), (.idxv 1 (.lit (.int 0)))]),
  .for_ .seq [(.get 5)] (.n 8) [
    .set 9 (.call 3 [.lend 0, .lend 8]),
    .set 6 (.bi .max2 [(.get 6), (.call 5 [.lend 8, .lend 9, .lend 1])]),
    .set 7 (.bi .min2 [(.get 7), (.call 6 [.lend 8, .lend 9, .lend 1])])],
  .ret (.tup [.mov 6, .mov 7])]
def f_bounds_of : FnD := ⟨2, 10, [], b_bounds_of⟩
theorem c_bounds_of : cFn pc p_bounds_of = some f_bounds_of := by kernel_rfl
def b_bound_list : List S := [
  .ret (.comp .seq [(.idxv 0 (.lit (.int 3)))] (.n 1) [] [1] (.call 7 [.lend 0, .lend 1]))]
def f_bound_list : FnD := ⟨1, 2, [], b_bound_list⟩
theorem c_bound_list : cFn pc p_bound_list = some f_bound_list := by kernel_rfl
def b_is_integer : List S := [
  .ret (.and (.isi (.vw 0) [.int]) (.not (.isi (.vw 0) [.bool])))]
def f_is_integer : FnD := ⟨1, 1, [], b_is_integer⟩
theorem c_is_integer : cFn pc p_is_integer = some f_is_integer := by kernel_rfl
def b_integer_within : List S := [
  .ret (.and (.call 9 [.lend 0]) (.chain .le .le (.get 1) (.get 0) (.vw 2)))]
def f_integer_within : FnD := ⟨3, 3, [], b_integer_within⟩
theorem c_integer_within : cFn pc p_integer_within = some f_integer_within := by kernel_rfl
def b_chain_fault : List S := [
  .ite (.or (.not (.isi (.vw 1) [.tuple])) (.cmp .eq (.bi .len [(.vw 1)]) (.lit (.int 0)))) [
    .ret (.tup [(.neg (.lit (.int 1))), (.lit (.str "shape"))])] [],
  .for_ .enum [(.get 1)] (.t [(.n 2), (.n 3)]) [
    .ite (.not (.call 10 [.lend 3, (.lit (.int 0)), (.bin .sub (.bi .len [(.idxv 0 (.lit (.int 3)))]) (.lit (.int 1)))])) [
      .ret (.tup [(.get 2), (.lit (.str "peg"))])] [],
    .ite (.cmp .mem (.get 3) (.slv 1 none (some (.get 2)))) [
      .ret (.tup [(.get 2), (.lit (.str "twice"))])] []],
  .ret (.lit .non)]
def f_chain_fault : FnD := ⟨2, 4, [], b_chain_fault⟩
theorem c_chain_fault : cFn pc p_chain_fault = some f_chain_fault := by kernel_rfl
def b_check_chain : List S := [
  .set 2 (.call 11 [.lend 0, .lend 1]),
  .ite (.cmp .isnot (.get 2) (.lit .non)) [
    .raise "BadChain" ["at", "word"] [(.idxv 2 (.lit (.int 0))), (.idxv 2 (.lit (.int 1)))]] [],
  .ret (.bi .len [(.vw 1)])]
def f_check_chain : FnD := ⟨2, 3, [], b_check_chain⟩
theorem c_check_chain : cFn pc p_check_chain = some f_check_chain := by kernel_rfl
def b_chain_room : List S := [
  .set 2 (.idxv 0 (.lit (.int 3))),
  .ret (.bi .sum [(.comp .zip [(.get 1), (.slv 1 (some (.lit (.int 1))) none)] (.t [(.n 3), (.n 4)]) [] [3, 4] (.call 1 [(.idxv 2 (.get 3)), (.idxv 2 (.get 4))]))])]
def f_chain_room : FnD := ⟨2, 5, [], b_chain_room⟩
theorem c_chain_room : cFn pc p_chain_room = some f_chain_room := by kernel_rfl
def b_is_short : List S := [
  .set 2 (.call 8 [.lend 0]),
  .ret (.cmp .lt (.bin .add (.idx (.idxv 2 (.idxv 1 (.lit (.int 0)))) (.lit (.int 1))) (.call 13 [.lend 0, .lend 1])) (.idx (.idxv 2 (.idxv 1 (.neg (.lit (.int 1))))) (.lit (.int 0))))]
def f_is_short : FnD := ⟨2, 3, [], b_is_short⟩
theorem c_is_short : cFn pc p_is_short = some f_is_short := by kernel_rfl
def b_nearest_left : List S := [
  .set 2 (.compV .enum 0 (.t [(.n 3), (.n 4)]) [(.and (.cmp .isnot (.get 4) (.lit .non)) (.din true (.get 3) 1))] [3, 4] (.tup [(.get 4), (.get 3)])),
  .ret (.ite (.cmp .gt (.bi .len [(.vw 2)]) (.lit (.int 0))) (.idx (.bi .min [(.vw 2)]) (.lit (.int 1))) (.lit .non))]
def f_nearest_left : FnD := ⟨2, 5, [], b_nearest_left⟩
theorem c_nearest_left : cFn pc p_nearest_left = some f_nearest_left := by kernel_rfl
def b_rooms_from : List S := [
  .set 2 (.bin .mul (.lst [(.lit .non)]) (.bi .len [(.vw 0)])),
  .set 3 (.bin .mul (.lst [(.lit .non)]) (.bi .len [(.vw 0)])),
  .setix 2 (.get 1) (.lit (.int 0)),
  .set 4 (.dnew false),
  .set 5 (.get 1),
  .wh (.cmp .isnot (.get 5) (.lit .non)) [
    .dput 4 (.get 5) (.lit (.bl true)),
    .for_ .enum [(.idxv 0 (.get 5))] (.t [(.n 6), (.n 7)]) [
      .ite (.or (.cmp .is (.idxv 2 (.get 6)) (.lit .non)) (.cmp .lt (.bin .add (.idxv 2 (.get 5)) (.get 7)) (.idxv 2 (.get 6)))) [
        .setix 2 (.get 6) (.bin .add (.idxv 2 (.get 5)) (.get 7)),
        .setix 3 (.get 6) (.get 5)] []],
    .set 5 (.call 15 [.lend 2, .lend 4])],
  .ret (.tup [.mov 2, .mov 3])]
def f_rooms_from : FnD := ⟨2, 8, [], b_rooms_from⟩
theorem c_rooms_from : cFn pc p_rooms_from = some f_rooms_from := by kernel_rfl
def b_chain_to : List S := [
  .set 2 (.lst [(.get 1)]),
  .wh (.cmp .isnot (.idxv 0 (.idxv 2 (.neg (.lit (.int 1))))) (.lit .non)) [
    .expr (.meth .append 2 [(.idxv 0 (.idxv 2 (.neg (.lit (.int 1)))))])],
  .ret (.bi .tuple [(.revs (.vw 2))])]
def f_chain_to : FnD := ⟨2, 3, [], b_chain_to⟩
theorem c_chain_to : cFn pc p_chain_to = some f_chain_to := by kernel_rfl
def b_least_room : List S := [
  .expr (.call 0 [.lend 0, .lend 1]),
  .expr (.call 0 [.lend 0, .lend 2]),
  .ret (.idx (.idx (.call 16 [(.call 2 [.lend 0]), .lend 1]) (.lit (.int 0))) (.get 2))]
def f_least_room : FnD := ⟨3, 3, [], b_least_room⟩
theorem c_least_room : cFn pc p_least_room = some f_least_room := by kernel_rfl
def b_least_chain : List S := [
  .expr (.call 0 [.lend 0, .lend 1]),
  .expr (.call 0 [.lend 0, .lend 2]),
  .ret (.call 17 [(.idx (.call 16 [(.call 2 [.lend 0]), .lend 1]) (.lit (.int 1))), .lend 2])]
def f_least_chain : FnD := ⟨3, 3, [], b_least_chain⟩
theorem c_least_chain : cFn pc p_least_chain = some f_least_chain := by kernel_rfl
def b__law_purse : List S := [
  .set 3 (.ite (.cmp .gt (.bi .len [(.vw 0)]) (.lit (.int 0))) (.idxv 0 (.bin .mod (.get 1) (.bi .len [(.vw 0)]))) (.bin .mul (.lit (.int 3)) (.get 1))),
  .set 3 (.ite (.cmp .lt (.get 3) (.lit (.int 0))) (.neg (.get 3)) (.get 3)),
  .set 4 (.ite (.cmp .ge (.get 3) (.bin .pow (.lit (.int 10)) (.lit (.int 17)))) (.get 3) (.lit (.int 0))),
  .set 5 (.bin .mod (.bi .int [(.bin .add (.bin .add (.bin .mul (.get 3) (.lit (.int 69621))) (.bin .mul (.get 1) (.lit (.int 104729)))) (.lit (.int 17)))]) (.lit (.int 2147483647))),
  .set 6 (.lst []),
  .for_ .range [(.get 2)] (.n 7) [
    .set 5 (.bin .mod (.bi .int [(.bin .add (.bin .add (.bin .mul (.get 5) (.lit (.int 69621))) (.bin .mul (.get 7) (.lit (.int 30011)))) (.lit (.int 101)))]) (.lit (.int 2147483647))),
    .ite (.cmp .gt (.get 4) (.lit (.int 0))) [
      .expr (.meth .append 6 [(.bin .mod (.bi .int [(.vw 4)]) (.lit (.int 9973)))]),
      .set 4 (.bin .fdiv (.get 4) (.lit (.int 9973)))] [
      .expr (.meth .append 6 [(.bin .fdiv (.get 5) (.lit (.int 65536)))])]],
  .ret (.revs (.vw 6))]
def f__law_purse : FnD := ⟨3, 8, [], b__law_purse⟩
theorem c__law_purse : cFn pc p__law_purse = some f__law_purse := by kernel_rfl
def b__law_take : List S := [
  .ite (.or (.cmp .eq (.bi .len [(.vw 0)]) (.lit (.int 0))) (.cmp .lt (.get 1) (.lit (.int 2)))) [
    .ret (.lit (.int 0))] [],
  .ret (.bin .mod (.bi .int [(.meth .pop 0 [])]) (.get 1))]
def f__law_take : FnD := ⟨2, 2, [], b__law_take⟩
theorem c__law_take : cFn pc p__law_take = some f__law_take := by kernel_rfl
def b__law_same : List S := [
  .set 2 (.lst [(.tup [(.get 0), (.get 1)])]),
  .for_ .range [(.lit (.int 900000))] (.n 3) [
    .ite (.cmp .eq (.bi .len [(.vw 2)]) (.lit (.int 0))) [
      .ret (.lit (.bl true))] [],
    .unp (.t [(.n 4), (.n 5)]) (.meth .pop 2 []),
    .ite (.isi (.vw 5) [.tuple]) [
      .ite (.or (.not (.isi (.vw 4) [.tuple])) (.cmp .ne (.bi .len [(.vw 4)]) (.bi .len [(.vw 5)]))) [
        .ret (.lit (.bl false))] [],
      .for_ .range [(.bi .len [(.vw 5)])] (.n 6) [
        .expr (.meth .append 2 [(.tup [(.idxv 4 (.get 6)), (.idxv 5 (.get 6))])])]] [
      .ite (.cmp .is (.get 5) (.lit .non)) [
        .ite (.cmp .isnot (.get 4) (.lit .non)) [
          .ret (.lit (.bl false))] []] [
        .ite (.isi (.vw 5) [.bool]) [
          .ite (.or (.not (.isi (.vw 4) [.bool])) (.cmp .ne (.get 4) (.vw 5))) [
            .ret (.lit (.bl false))] []] [
          .ite (.isi (.vw 5) [.int]) [
            .ite (.or (.not (.isi (.vw 4) [.int])) (.or (.isi (.vw 4) [.bool]) (.cmp .ne (.get 4) (.vw 5)))) [
              .ret (.lit (.bl false))] []] [
            .ite (.or (.not (.isi (.vw 5) [.str])) (.or (.not (.isi (.vw 4) [.str])) (.cmp .ne (.get 4) (.vw 5)))) [
              .ret (.lit (.bl false))] []]]]]],
  .ret (.lit (.bl false))]
def f__law_same : FnD := ⟨2, 7, [], b__law_same⟩
theorem c__law_same : cFn pc p__law_same = some f__law_same := by kernel_rfl
def b__law_whole : List S := [
  .ret (.and (.isi (.vw 0) [.int]) (.not (.isi (.vw 0) [.bool])))]
def f__law_whole : FnD := ⟨1, 1, [], b__law_whole⟩
theorem c__law_whole : cFn pc p__law_whole = some f__law_whole := by kernel_rfl
def b__law_plan : List S := [
  .set 6 (.lst []),
  .set 7 (.lst []),
  .for_ .range [(.get 4)] (.n 8) [
    .par [9, 10] [(.call 21 [.lend 0, .lend 1]), (.call 21 [.lend 0, .lend 2])],
    .ite (.cmp .notmem (.tup [(.get 9), (.get 10)]) (.vw 7)) [
      .expr (.meth .append 7 [(.tup [(.get 9), (.get 10)])]),
      .set 11 (.call 21 [.lend 0, (.bin .add (.get 3) (.lit (.int 1)))]),
      .expr (.meth .append 6 [(.tup [(.get 9), (.get 10), (.get 11), (.bi .min2 [(.get 3), (.bin .add (.get 11) (.idx (.tup [(.lit (.int 0)), (.lit (.int 0)), (.lit (.int 1)), (.get 3)]) (.call 21 [.lend 0, (.lit (.int 4))])))])])])] []],
  .set 12 (.lst []),
  .set 7 (.lst []),
  .for_ .range [(.ite (.cmp .gt (.get 3) (.lit (.int 0))) (.get 5) (.lit (.int 0)))] (.n 8) [
    .par [13, 14] [(.call 21 [.lend 0, .lend 3]), (.call 21 [.lend 0, (.bin .add (.get 2) (.lit (.int 1)))])],
    .ite (.cmp .notmem (.tup [(.get 13), (.get 14)]) (.vw 7)) [
      .expr (.meth .append 7 [(.tup [(.get 13), (.get 14)])]),
      .set 11 (.call 21 [.lend 0, .lend 1]),
      .expr (.meth .append 12 [(.tup [(.get 13), (.get 14), (.get 11), (.bi .min2 [(.bin .sub (.get 1) (.lit (.int 1))), (.bin .add (.get 11) (.idx (.tup [(.lit (.int 0)), (.lit (.int 1)), (.lit (.int 2)), (.get 1)]) (.call 21 [.lend 0, (.lit (.int 4))])))])])])] []],
  .ret (.tup [(.get 1), (.get 2), (.get 3), (.bi .tuple [(.bi .sorted [(.vw 6)])]), (.bi .tuple [(.bi .sorted [(.vw 12)])])])]
def f__law_plan : FnD := ⟨6, 15, [], b__law_plan⟩
theorem c__law_plan : cFn pc p__law_plan = some f__law_plan := by kernel_rfl
def b__law_room : List S := [
  .par [2, 3] [(.bin .sub (.idxv 1 (.lit (.int 0))) (.idxv 0 (.lit (.int 0)))), (.bi .max2 [(.bin .sub (.idxv 1 (.lit (.int 1))) (.idxv 0 (.lit (.int 1)))), (.bin .sub (.idxv 0 (.lit (.int 1))) (.idxv 1 (.lit (.int 1))))])],
  .ite (.cmp .gt (.get 2) (.lit (.int 0))) [
    .ret (.bin .sub (.bi .max2 [(.get 2), (.get 3)]) (.lit (.int 1)))] [],
  .ret (.ite (.cmp .eq (.get 2) (.lit (.int 0))) (.bin .sub (.get 3) (.lit (.int 1))) (.bi .max2 [(.bin .sub (.get 3) (.lit (.int 1))), (.lit (.int 0))]))]
def f__law_room : FnD := ⟨2, 4, [], b__law_room⟩
theorem c__law_room : cFn pc p__law_room = some f__law_room := by kernel_rfl
def b__law_real : List S := [
  .ret (.tup [(.bi .max2 [(.idxv 1 (.lit (.int 2))), (.idxv 1 (.lit (.int 0)))]), (.bi .min2 [(.idxv 1 (.lit (.int 3))), (.bin .add (.bin .sub (.idxv 0 (.lit (.int 0))) (.idxv 0 (.lit (.int 2)))) (.idxv 1 (.lit (.int 0))))])])]
def f__law_real : FnD := ⟨2, 2, [], b__law_real⟩
theorem c__law_real : cFn pc p__law_real = some f__law_real := by kernel_rfl
def b__law_bounds : List S := [
  .set 1 (.lst []),
  .for_ .seq [(.idxv 0 (.lit (.int 3)))] (.t [(.n 2), (.n 3), (.n 4), (.n 5)]) [
    .par [6, 7] [(.bi .max2 [(.get 4), (.bin .sub (.idxv 0 (.lit (.int 2))) (.bin .sub (.bin .sub (.idxv 0 (.lit (.int 0))) (.lit (.int 1))) (.get 2)))]), (.bi .min2 [(.get 5), (.get 2)])],
    .for_ .seq [(.idxv 0 (.lit (.int 4)))] (.n 8) [
      .unp (.t [(.n 9), (.n 10)]) (.call 26 [.lend 0, .lend 8]),
      .set 11 (.bi .min2 [(.bi .max2 [(.bin .sub (.get 3) (.idxv 8 (.lit (.int 1)))), (.bin .sub (.idxv 8 (.lit (.int 1))) (.get 3))]), (.bi .max2 [(.bin .add (.bin .sub (.get 3) (.idxv 8 (.lit (.int 1)))) (.lit (.int 1))), (.bin .sub (.bin .sub (.idxv 8 (.lit (.int 1))) (.lit (.int 1))) (.get 3))])]),
      .set 6 (.bi .max2 [(.get 6), (.bin .sub (.bin .add (.idxv 8 (.lit (.int 0))) (.lit (.int 1))) (.ite (.cmp .le (.get 2) (.vw 10)) (.bi .max2 [(.bin .sub (.get 10) (.get 2)), (.get 11)]) (.get 11)))]),
      .set 7 (.bi .min2 [(.get 7), (.bin .add (.idxv 8 (.lit (.int 0))) (.ite (.cmp .ge (.get 2) (.vw 9)) (.bi .max2 [(.bin .sub (.get 2) (.get 9)), (.get 11)]) (.get 11)))])],
    .expr (.meth .append 1 [(.tup [(.get 6), (.get 7)])])],
  .ret (.mov 1)]
def f__law_bounds : FnD := ⟨1, 12, [], b__law_bounds⟩
theorem c__law_bounds : cFn pc p__law_bounds = some f__law_bounds := by kernel_rfl
def b__law_sum : List S := [
  .ret (.bi .sum [(.comp .range [(.bin .sub (.bi .len [(.vw 1)]) (.lit (.int 1)))] (.n 2) [] [2] (.call 25 [(.idx (.idxv 0 (.lit (.int 3))) (.idxv 1 (.get 2))), (.idx (.idxv 0 (.lit (.int 3))) (.idxv 1 (.bin .add (.get 2) (.lit (.int 1)))))]))])]
def f__law_sum : FnD := ⟨2, 3, [], b__law_sum⟩
theorem c__law_sum : cFn pc p__law_sum = some f__law_sum := by kernel_rfl
def b__law_least : List S := [
  .set 2 (.bi .len [(.idxv 0 (.lit (.int 3)))]),
  .set 3 (.bin .mul (.lst [(.lit .non)]) (.get 2)),
  .setix 3 (.get 1) (.lit (.int 0)),
  .set 4 (.lst []),
  .for_ .range [(.get 2)] (.n 5) [
    .set 6 (.neg (.lit (.int 1))),
    .for_ .range [(.get 2)] (.n 7) [
      .ite (.and (.cmp .notmem (.get 7) (.vw 4)) (.and (.cmp .isnot (.idxv 3 (.get 7)) (.lit .non)) (.or (.cmp .lt (.get 6) (.lit (.int 0))) (.cmp .lt (.idxv 3 (.get 7)) (.idxv 3 (.get 6)))))) [
        .set 6 (.get 7)] []],
    .expr (.meth .append 4 [(.get 6)]),
    .for_ .range [(.get 2)] (.n 7) [
      .ite (.cmp .ne (.get 7) (.vw 6)) [
        .set 8 (.bin .add (.idxv 3 (.get 6)) (.call 25 [(.idx (.idxv 0 (.lit (.int 3))) (.get 6)), (.idx (.idxv 0 (.lit (.int 3))) (.get 7))])),
        .ite (.or (.cmp .is (.idxv 3 (.get 7)) (.lit .non)) (.cmp .lt (.get 8) (.idxv 3 (.get 7)))) [
          .setix 3 (.get 7) (.get 8)] []] []]],
  .ret (.mov 3)]
def f__law_least : FnD := ⟨2, 9, [], b__law_least⟩
theorem c__law_least : cFn pc p__law_least = some f__law_least := by kernel_rfl
def b__law_due : List S := [
  .ite (.or (.not (.isi (.vw 1) [.tuple])) (.cmp .eq (.bi .len [(.vw 1)]) (.lit (.int 0)))) [
    .ret (.tup [(.lit (.str "bad")), (.neg (.lit (.int 1))), (.lit (.str "shape"))])] [],
  .for_ .range [(.bi .len [(.vw 1)])] (.n 2) [
    .ite (.or (.not (.call 23 [(.idxv 1 (.get 2))])) (.not (.chain .le .lt (.lit (.int 0)) (.idxv 1 (.get 2)) (.bi .len [(.idxv 0 (.lit (.int 3)))])))) [
      .ret (.tup [(.lit (.str "bad")), (.get 2), (.lit (.str "peg"))])] [],
    .ite (.cmp .mem (.idxv 1 (.get 2)) (.slv 1 none (some (.get 2)))) [
      .ret (.tup [(.lit (.str "bad")), (.get 2), (.lit (.str "twice"))])] []],
  .ret (.tup [(.lit (.str "told")), (.bi .len [(.vw 1)])])]
def f__law_due : FnD := ⟨2, 3, [], b__law_due⟩
theorem c__law_due : cFn pc p__law_due = some f__law_due := by kernel_rfl
def b__law_told : List S := [
  .try_ [
    .ret (.tup [(.lit (.str "told")), (.call 12 [.lend 0, .lend 1])])] [("BadChain", true), ("BadStep", false)] 2 ["BadChain"] [(none, (.tup [(.lit (.str "bad")), (.fld "at"), (.fld "word")]))]]
def f__law_told : FnD := ⟨2, 3, [], b__law_told⟩
theorem c__law_told : cFn pc p__law_told = some f__law_told := by kernel_rfl
def b__law_told_least : List S := [
  .try_ [
    .ret (.call 18 [.lend 0, .lend 1, .lend 2])] [("BadChain", false), ("BadStep", true)] 3 ["BadStep"] [(none, (.tup [(.fld "word")]))]]
def f__law_told_least : FnD := ⟨3, 4, [], b__law_told_least⟩
theorem c__law_told_least : cFn pc p__law_told_least = some f__law_told_least := by kernel_rfl
def b__law_told_chain : List S := [
  .try_ [
    .ret (.call 19 [.lend 0, .lend 1, .lend 2])] [("BadChain", false), ("BadStep", true)] 3 ["BadStep"] [(none, (.tup [(.fld "word")]))]]
def f__law_told_chain : FnD := ⟨3, 4, [], b__law_told_chain⟩
theorem c__law_told_chain : cFn pc p__law_told_chain = some f__law_told_chain := by kernel_rfl
def b__law_is_chain : List S := [
  .ite (.or (.cmp .ne (.idx (.call 30 [.lend 0, .lend 1]) (.lit (.int 0))) (.lit (.str "told"))) (.or (.cmp .ne (.idxv 1 (.lit (.int 0))) (.vw 2)) (.cmp .ne (.idxv 1 (.neg (.lit (.int 1)))) (.vw 3)))) [
    .ret (.lit (.bl false))] [],
  .ret (.cmp .eq (.call 28 [.lend 0, .lend 1]) (.vw 4))]
def f__law_is_chain : FnD := ⟨5, 5, [], b__law_is_chain⟩
theorem c__law_is_chain : cFn pc p__law_is_chain = some f__law_is_chain := by kernel_rfl
def b__law_chain : List S := [
  .set 3 (.rng false [(.get 1)]),
  .set 4 (.lst []),
  .for_ .range [(.bi .min2 [(.get 1), (.get 2)])] (.n 5) [
    .expr (.meth .append 4 [(.meth .popAt 3 [(.call 21 [.lend 0, (.bi .len [(.vw 3)])])])])],
  .ret (.bi .tuple [(.vw 4)])]
def f__law_chain : FnD := ⟨3, 6, [], b__law_chain⟩
theorem c__law_chain : cFn pc p__law_chain = some f__law_chain := by kernel_rfl
def b__law_looked_at : List S := [
  .set 3 (.call 28 [.lend 0, .lend 1]),
  .ite (.not (.call 22 [(.tup [(.call 13 [.lend 0, .lend 1]), (.call 31 [.lend 0, .lend 1])]), (.tup [(.get 3), (.tup [(.lit (.str "told")), (.bi .len [(.vw 1)])])])])) [
    .ret (.lit (.bl false))] [],
  .ret (.call 22 [(.call 14 [.lend 0, .lend 1]), (.cmp .lt (.bin .add (.idx (.idxv 2 (.idxv 1 (.lit (.int 0)))) (.lit (.int 1))) (.get 3)) (.idx (.idxv 2 (.idxv 1 (.neg (.lit (.int 1))))) (.lit (.int 0))))])]
def f__law_looked_at : FnD := ⟨3, 4, [], b__law_looked_at⟩
theorem c__law_looked_at : cFn pc p__law_looked_at = some f__law_looked_at := by kernel_rfl
def b__law_things : List S := [
  .set 3 (.call 21 [.lend 0, (.bi .len [(.vw 2)])]),
  .set 4 (.idxv 2 (.call 21 [.lend 0, (.bi .len [(.vw 2)])])),
  .set 5 (.lst [(.bi .list [(.vw 2)]), (.tup []), (.lit .non), (.lit (.int 3)), (.lit (.str "012")), (.tup [(.get 2)]), (.bin .add (.bin .add (.slv 2 none (some (.get 3))) (.tup [(.neg (.lit (.int 1)))])) (.slv 2 (some (.get 3)) none)), (.bin .add (.slv 2 none (some (.get 3))) (.tup [(.bi .len [(.idxv 1 (.lit (.int 3)))])]))]),
  .set 5 (.bin .add (.get 5) (.lst [(.bin .add (.get 2) (.tup [(.get 4)])), (.bin .add (.bin .add (.slv 2 none (some (.get 3))) (.tup [(.lit (.bl true))])) (.slv 2 (some (.bin .add (.get 3) (.lit (.int 1)))) none)), (.bin .add (.get 2) (.tup [(.lit .non)])), (.bin .add (.slv 2 none (some (.get 3))) (.tup [(.tup [(.lit (.int 0))])]))])),
  .set 5 (.bin .add (.get 5) (.lst [(.bin .add (.tup [(.get 4)]) (.get 2)), (.bin .add (.bin .add (.slv 2 none (some (.get 3))) (.tup [(.lit (.str "0"))])) (.slv 2 (some (.get 3)) none)), (.bin .add (.get 2) (.tup [(.get 4), (.neg (.lit (.int 5)))])), (.revs (.vw 2))])),
  .ret (.mov 5)]
def f__law_things : FnD := ⟨3, 6, [], b__law_things⟩
theorem c__law_things : cFn pc p__law_things = some f__law_things := by kernel_rfl
def b__law_scene : List S := [
  .set 3 (.bi .len [(.idxv 1 (.lit (.int 3)))]),
  .set 4 (.call 27 [.lend 1]),
  .ite (.cmp .eq (.get 3) (.lit (.int 0))) [
    .set 5 (.tup [(.call 31 [.lend 1, (.tup [(.lit (.int 0))])]), (.call 31 [.lend 1, (.tup [])]), (.call 32 [.lend 1, (.lit (.int 0)), (.lit (.int 0))]), (.call 33 [.lend 1, (.lit (.int 0)), (.lit (.int 0))])]),
    .ret (.call 22 [.lend 5, (.tup [(.tup [(.lit (.str "bad")), (.lit (.int 0)), (.lit (.str "peg"))]), (.tup [(.lit (.str "bad")), (.neg (.lit (.int 1))), (.lit (.str "shape"))]), (.tup [(.lit (.str "peg"))]), (.tup [(.lit (.str "peg"))])])])] [],
  .for_ .range [(.get 2)] (.n 6) [
    .set 7 (.call 35 [.lend 0, .lend 3, (.bin .add (.lit (.int 1)) (.call 21 [.lend 0, (.lit (.int 6))]))]),
    .ite (.not (.call 36 [.lend 1, .lend 7, .lend 4])) [
      .ret (.lit (.bl false))] [],
    .ite (.cmp .eq (.get 6) (.lit (.int 0))) [
      .for_ .seq [(.call 37 [.lend 0, .lend 1, .lend 7])] (.n 8) [
        .ite (.not (.call 22 [(.call 31 [.lend 1, .lend 8]), (.call 30 [.lend 1, .lend 8])])) [
          .ret (.lit (.bl false))] []]] []],
  .for_ .range [(.lit (.int 3))] (.n 6) [
    .par [9, 10] [(.call 21 [.lend 0, .lend 3]), (.call 21 [.lend 0, .lend 3])],
    .set 11 (.call 29 [.lend 1, .lend 9]),
    .ite (.not (.call 22 [(.call 32 [.lend 1, .lend 9, .lend 10]), (.idxv 11 (.get 10))])) [
      .ret (.lit (.bl false))] [],
    .ite (.not (.call 34 [.lend 1, (.call 33 [.lend 1, .lend 9, .lend 10]), .lend 9, .lend 10, (.idxv 11 (.get 10))])) [
      .ret (.lit (.bl false))] []],
  .for_ .seq [(.tup [(.tup [(.get 3), (.lit (.int 0))]), (.tup [(.lit (.int 0)), (.get 3)]), (.tup [(.neg (.lit (.int 1))), (.lit (.int 0))]), (.tup [(.lit (.int 0)), (.neg (.lit (.int 1)))]), (.tup [(.get 3), (.get 3)])])] (.t [(.n 9), (.n 10)]) [
    .ite (.not (.call 22 [(.tup [(.call 32 [.lend 1, .lend 9, .lend 10]), (.call 33 [.lend 1, .lend 9, .lend 10])]), (.tup [(.tup [(.lit (.str "peg"))]), (.tup [(.lit (.str "peg"))])])])) [
      .ret (.lit (.bl false))] []],
  .ret (.call 22 [(.tup [(.call 32 [.lend 1, (.lit (.int 0)), (.lit (.int 0))]), (.call 33 [.lend 1, (.lit (.int 0)), (.lit (.int 0))])]), (.tup [(.lit (.int 0)), (.tup [(.lit (.int 0))])])])]
def f__law_scene : FnD := ⟨3, 12, [], b__law_scene⟩
theorem c__law_scene : cFn pc p__law_scene = some f__law_scene := by kernel_rfl
def b__law_by_hand : List S := [
  .set 1 (.comp .range [(.lit (.int 5))] (.n 5) [] [5] (.tup [(.bin .mul (.get 0) (.get 5)), (.lit (.int 0)), (.bi .min2 [(.bin .mul (.get 5) (.get 0)), (.lit (.int 4))]), (.bi .min2 [(.bin .mul (.get 5) (.get 0)), (.lit (.int 4))])])),
  .set 2 (.tup [(.bin .add (.bin .mul (.lit (.int 4)) (.get 0)) (.lit (.int 1))), (.lit (.int 3)), (.lit (.int 4)), (.bi .tuple [(.vw 1)]), (.tup [])]),
  .ite (.not (.call 22 [(.tup [(.call 18 [.lend 2, (.lit (.int 0)), (.lit (.int 4))]), (.call 13 [.lend 2, (.tup [(.lit (.int 0)), (.lit (.int 1)), (.lit (.int 2)), (.lit (.int 3)), (.lit (.int 4))])])]), (.tup [(.bin .sub (.bin .mul (.lit (.int 4)) (.get 0)) (.lit (.int 4))), (.bin .sub (.bin .mul (.lit (.int 4)) (.get 0)) (.lit (.int 4)))])])) [
    .ret (.lit (.bl false))] [],
  .ite (.or (.not (.call 34 [.lend 2, (.call 19 [.lend 2, (.lit (.int 0)), (.lit (.int 4))]), (.lit (.int 0)), (.lit (.int 4)), (.bin .sub (.bin .mul (.lit (.int 4)) (.get 0)) (.lit (.int 4)))])) (.not (.call 22 [(.call 18 [.lend 2, (.lit (.int 4)), (.lit (.int 0))]), (.lit (.int 0))]))) [
    .ret (.lit (.bl false))] [],
  .set 3 (.tup [(.lit (.int 4)), (.lit (.int 2)), (.lit (.int 2)), (.tup [(.tup [(.lit (.int 0)), (.lit (.int 0)), (.lit (.int 0)), (.lit (.int 0))]), (.tup [(.lit (.int 2)), (.lit (.int 0)), (.lit (.int 2)), (.lit (.int 2))])]), (.tup [])]),
  .set 4 (.tup [(.lit (.int 4)), (.lit (.int 2)), (.lit (.int 2)), (.tup [(.tup [(.lit (.int 0)), (.lit (.int 0)), (.lit (.int 0)), (.lit (.int 0))]), (.tup [(.lit (.int 2)), (.lit (.int 0)), (.lit (.int 1)), (.lit (.int 2))])]), (.tup [])]),
  .ret (.call 22 [(.tup [(.call 14 [.lend 3, (.tup [(.lit (.int 0)), (.lit (.int 1))])]), (.call 14 [.lend 4, (.tup [(.lit (.int 0)), (.lit (.int 1))])]), (.call 14 [.lend 3, (.tup [(.lit (.int 1)), (.lit (.int 0))])])]), (.tup [(.lit (.bl true)), (.lit (.bl false)), (.lit (.bl false))])])]
def f__law_by_hand : FnD := ⟨1, 6, [], b__law_by_hand⟩
theorem c__law_by_hand : cFn pc p__law_by_hand = some f__law_by_hand := by kernel_rfl
def b_law : List S := [
  .set 1 (.call 20 [.lend 0, (.lit (.int 0)), (.lit (.int 700))]),
  .for_ .range [(.lit (.int 3))] (.n 2) [
    .par [3, 4, 5] [(.bin .add (.lit (.int 1)) (.call 21 [.lend 1, (.lit (.int 9))])), (.bin .add (.lit (.int 1)) (.call 21 [.lend 1, (.lit (.int 8))])), (.call 21 [.lend 1, (.lit (.int 10))])],
    .ite (.not (.call 38 [.lend 1, (.call 24 [.lend 1, .lend 3, .lend 4, .lend 5, (.call 21 [.lend 1, (.lit (.int 10))]), (.call 21 [.lend 1, (.lit (.int 4))])]), (.lit (.int 4))])) [
      .ret (.lit (.bl false))] []],
  .set 1 (.call 20 [.lend 0, (.lit (.int 1)), (.lit (.int 400))]),
  .ite (.cmp .eq (.call 21 [.lend 1, (.lit (.int 7))]) (.lit (.int 3))) [
    .set 6 (.call 20 [.lend 0, (.lit (.int 2)), (.lit (.int 2000))]),
    .ite (.not (.call 38 [.lend 6, (.call 24 [.lend 6, (.lit (.int 40)), (.lit (.int 40)), (.bin .add (.lit (.int 10)) (.call 21 [.lend 6, (.lit (.int 31))])), (.lit (.int 60)), (.lit (.int 10))]), (.lit (.int 4))])) [
      .ret (.lit (.bl false))] []] [],
  .set 3 (.bin .add (.lit (.int 5)) (.call 21 [.lend 1, (.lit (.int 5))])),
  .ite (.not (.call 38 [.lend 1, (.call 24 [.lend 1, .lend 3, (.bin .add (.lit (.int 3)) (.call 21 [.lend 1, (.lit (.int 5))])), (.bin .add (.lit (.int 3)) (.call 21 [.lend 1, (.lit (.int 3))])), (.lit (.int 12)), (.lit (.int 3))]), (.lit (.int 6))])) [
    .ret (.lit (.bl false))] [],
  .ret (.call 39 [(.bin .add (.lit (.int 2)) (.call 21 [.lend 1, (.lit (.int 7))]))])]
def f_law : FnD := ⟨1, 7, [], b_law⟩
theorem c_law : cFn pc p_law = some f_law := by kernel_rfl
def irs : List FnD := (f_peg_or_raise :: f_room :: f_room_rows :: f_real_span :: f_level_gap :: f_gate_least :: f_gate_most :: f_bounds_of :: f_bound_list :: f_is_integer :: f_integer_within :: f_chain_fault :: f_check_chain :: f_chain_room :: f_is_short :: f_nearest_left :: f_rooms_from :: f_chain_to :: f_least_room :: f_least_chain :: f__law_purse :: f__law_take :: f__law_same :: f__law_whole :: f__law_plan :: f__law_room :: f__law_real :: f__law_bounds :: f__law_sum :: f__law_least :: f__law_due :: f__law_told :: f__law_told_least :: f__law_told_chain :: f__law_is_chain :: f__law_chain :: f__law_looked_at :: f__law_things :: f__law_scene :: f__law_by_hand :: f_law :: [])
theorem irs_ok : cProg pc pds = some irs := by
  unfold cProg pds irs
  simp only [mapO, c_peg_or_raise, c_room, c_room_rows, c_real_span, c_level_gap, c_gate_least, c_gate_most, c_bounds_of, c_bound_list, c_is_integer, c_integer_within, c_chain_fault, c_check_chain, c_chain_room, c_is_short, c_nearest_left, c_rooms_from, c_chain_to, c_least_room, c_least_chain, c__law_purse, c__law_take, c__law_same, c__law_whole, c__law_plan, c__law_room, c__law_real, c__law_bounds, c__law_sum, c__law_least, c__law_due, c__law_told, c__law_told_least, c__law_told_chain, c__law_is_chain, c__law_chain, c__law_looked_at, c__law_things, c__law_scene, c__law_by_hand, c_law, Option.bind_some, Option.map_some]
abbrev Rw : PySem.W.OpenRow := PySem.W.OpenLaw.row PySem.Challenge.rw_roomtopass_k14_chains
abbrev hk : PySem.W.Hook := hookR pc pds inits
def ob (s : PySem.W.SharedT) : AlR := obsR pc pds inits (HandSHeadRun.getT s)
theorem ob_eq (s : PySem.W.SharedT) : ob s = hk.obs s.abs := obsR_eq s
theorem run (w : World) : HandSHeadRun.RunEq Rw (PySem.W.view Rw.prog [52]) hk ob 4000 loose w := by
  intro os
  kernel_rfl
end Law

/-! B6: rows of four ints, plans; equality, membership and order of int tuples, told exactly. -/
namespace R
open PySem PySem.Spec L2
open PyProof.Rows hiding St
structure Q4 where
  a : Int
  b : Int
  c : Int
  d : Int
def d4 (q : Q4) : Dat := .tup [.int q.a, .int q.b, .int q.c, .int q.d]
theorem d4_eq (q : Q4) : d4 q = .tup [.int q.a, .int q.b, .int q.c, .int q.d] := rfl
structure Pl where
  c : Int
  r : Int
  h : Int
  ps : List Q4
  gs : List Q4
def dP (p : Pl) : Dat := .tup [.int p.c, .int p.r, .int p.h, .tup (p.ps.map d4), .tup (p.gs.map d4)]
theorem dP_eq (p : Pl) : dP p = .tup [.int p.c, .int p.r, .int p.h, .tup (p.ps.map d4), .tup (p.gs.map d4)] := rfl
theorem at0 {x : Dat} {r : List Dat} : L2.atI (x :: r) 0 = some x := by simp [L2.atI, L2.ixN]
theorem at1 {x y : Dat} {r : List Dat} : L2.atI (x :: y :: r) 1 = some y := by
  have := R.atI_nat (l := x :: y :: r) (k := 1) (by simp)
  simpa using this
theorem at2 {x y z : Dat} {r : List Dat} : L2.atI (x :: y :: z :: r) 2 = some z := by
  have := R.atI_nat (l := x :: y :: z :: r) (k := 2) (by simp)
  simpa using this
theorem at3 {x y z w : Dat} {r : List Dat} : L2.atI (x :: y :: z :: w :: r) 3 = some w := by
  have := R.atI_nat (l := x :: y :: z :: w :: r) (k := 3) (by simp)
  simpa using this
theorem at4 {x y z w v : Dat} {r : List Dat} : L2.atI (x :: y :: z :: w :: v :: r) 4 = some v := by
  have := R.atI_nat (l := x :: y :: z :: w :: v :: r) (k := 4) (by simp)
  simpa using this
@[simp] theorem idP0 (p : Pl) : idxD (dP p) (.int 0) = some (.int p.c) := by rw [dP_eq, idxD_tup]; exact at0
@[simp] theorem idP1 (p : Pl) : idxD (dP p) (.int 1) = some (.int p.r) := by rw [dP_eq, idxD_tup]; exact at1
@[simp] theorem idP2 (p : Pl) : idxD (dP p) (.int 2) = some (.int p.h) := by rw [dP_eq, idxD_tup]; exact at2
@[simp] theorem idP3 (p : Pl) : idxD (dP p) (.int 3) = some (.tup (p.ps.map d4)) := by rw [dP_eq, idxD_tup]; exact at3
@[simp] theorem idP4 (p : Pl) : idxD (dP p) (.int 4) = some (.tup (p.gs.map d4)) := by rw [dP_eq, idxD_tup]; exact at4
@[simp] theorem id40 (q : Q4) : idxD (d4 q) (.int 0) = some (.int q.a) := by rw [d4_eq, idxD_tup]; exact at0
@[simp] theorem id41 (q : Q4) : idxD (d4 q) (.int 1) = some (.int q.b) := by rw [d4_eq, idxD_tup]; exact at1
@[simp] theorem id42 (q : Q4) : idxD (d4 q) (.int 2) = some (.int q.c) := by rw [d4_eq, idxD_tup]; exact at2
@[simp] theorem id43 (q : Q4) : idxD (d4 q) (.int 3) = some (.int q.d) := by rw [d4_eq, idxD_tup]; exact at3
theorem at_map {α : Type} (f : α → Dat) (l : List α) (k : Nat) (h : k < l.length) : L2.atI (l.map f) (k : Int) = some (f l[k]) := by
  rw [R.atI_nat (by simpa using h)]
  simp
theorem four (a b c d : Int) (k : Int) (h0 : 0 ≤ k) (h4 : k < 4) : ∃ z, L2.atI [Dat.int a, .int b, .int c, .int d] k = some (.int z) := by
  have hk : k = 0 ∨ k = 1 ∨ k = 2 ∨ k = 3 := by omega
  rcases hk with rfl | rfl | rfl | rfl
  · exact ⟨a, at0⟩
  · exact ⟨b, at1⟩
  · exact ⟨c, at2⟩
  · exact ⟨d, at3⟩
/-! ### equality -/
def eq4 (p q : Q4) : Bool := p.a == q.a && (p.b == q.b && (p.c == q.c && p.d == q.d))
theorem eq4_iff (p q : Q4) : eq4 p q = true ↔ p = q := by
  cases p
  cases q
  simp [eq4]
theorem eqv_d2 (a b : Int × Int) : PyData.eqv (d2 a).py (d2 b).py = decide (a = b) := by
  have : (decide (a = b)) = (decide (a.1 = b.1 ∧ a.2 = b.2)) := by
    rw [decide_eq_decide]
    exact ⟨fun h => by rw [h]; exact ⟨rfl, rfl⟩, fun h => Prod.ext h.1 h.2⟩
  rw [this]
  simp [d2, Dat.py, pys, PyData.eqv, PyData.eqvAll, Bool.decide_and]
  rfl
theorem cmp_eq4 (p q : Q4) : cmpD .eq (d4 p) (d4 q) = some (eq4 p q) := by
  simp [cmpD, d4, eqD, noDic, noDics, eqOk, Dat.py, pys, SeqAt.shaped, PyData.canLay0, PyData.canLayAll0, PyData.depth, PyData.depthAll, PyData.eqv, PyData.eqvAll, eq4]
theorem any_mem (q : Int × Int) (P : List (Int × Int)) : (P.any fun z => decide (z = q)) = decide (q ∈ P) := by
  rw [Bool.eq_iff_iff]
  simp only [List.any_eq_true, decide_eq_true_eq]
  exact ⟨fun ⟨z, h, e⟩ => e ▸ h, fun h => ⟨q, h, rfl⟩⟩
theorem cmp_mem2 (q : Int × Int) (P : List (Int × Int)) : cmpD .notmem (d2 q) (.lst (P.map d2)) = some (!decide (q ∈ P)) := by
  have h1 := lay_d2 q
  have h2 := lays_d2 P
  have e1 : noDic (d2 q) = true := rfl
  have e2 : noDics (P.map d2) = true := noDics_map d2 (fun _ => rfl) P
  have e3 : eqOk (d2 q) = true := by simp [eqOk, SeqAt.shaped, h1.1, h1.2]
  have e4 : eqOk (.lst (P.map d2)) = true := by
    have := h2.2
    simp [eqOk, SeqAt.shaped, Dat.py, PyData.canLay0, PyData.depth, h2.1]
    omega
  have e5 : memD (d2 q) (P.map d2) = some ((P.map d2).any fun z => PyData.eqv z.py (d2 q).py) := by
    unfold memD
    rw [e1, e2, e3, e4]
    rfl
  have e6 : ((P.map d2).any fun z => PyData.eqv z.py (d2 q).py) = decide (q ∈ P) := by
    rw [List.any_map]
    simp only [Function.comp_def, eqv_d2]
    exact any_mem q P
  show (memD (d2 q) (P.map d2)).map (!·) = _
  rw [e5, e6]
  rfl
/-! ### order -/
def lt2 (a b : Int × Int) : Prop := a.1 < b.1 ∨ (a.1 = b.1 ∧ a.2 < b.2)
theorem lt_d2 (a b : Int × Int) : PySem.W.dataLt (d2 a).py (d2 b).py = true ↔ lt2 a b := by
  simp [d2, Dat.py, pys, PySem.W.dataLt, PySem.W.keyToks, PySem.W.keyToksAll, PyProof.Rows.lexLt, itemLt, lt2]
  omega
def ins2 (x : Int × Int) : List (Int × Int) → List (Int × Int)
  | [] => [x]
  | y :: r => if PySem.W.dataLt (d2 y).py (d2 x).py then y :: ins2 x r else x :: y :: r
def sort2 : List (Int × Int) → List (Int × Int)
  | [] => []
  | x :: r => ins2 x (sort2 r)
theorem ins2_eq (x : Int × Int) : ∀ l, sortD.insL (d2 x) (l.map d2) = (ins2 x l).map d2
  | [] => rfl
  | y :: l => by
    rw [List.map_cons, sortD.insL, ins2]
    split
    · rw [ins2_eq x l]
      rfl
    · rfl
theorem sort2_eq : ∀ l, sortD (l.map d2) = (sort2 l).map d2
  | [] => rfl
  | x :: l => by rw [List.map_cons, sortD, sort2_eq l, ins2_eq, sort2]
theorem mem_ins2 (x z : Int × Int) : ∀ l, z ∈ ins2 x l ↔ z = x ∨ z ∈ l
  | [] => by simp [ins2]
  | y :: l => by
    rw [ins2]
    split
    · rw [List.mem_cons, mem_ins2 x z l, List.mem_cons]
      constructor
      · rintro (h | h | h) <;> simp [h]
      · rintro (h | h | h) <;> simp [h]
    · simp
theorem mem_sort2 (z : Int × Int) : ∀ l, z ∈ sort2 l ↔ z ∈ l
  | [] => by simp [sort2]
  | x :: l => by rw [sort2, mem_ins2, mem_sort2 z l, List.mem_cons]
theorem lt2_trans {a b c : Int × Int} (h : lt2 a b) (h' : lt2 b c) : lt2 a c := by
  unfold lt2 at *
  omega
theorem lt2_ne {a b : Int × Int} (h : lt2 a b) : a ≠ b := fun e => by
  subst e
  unfold lt2 at h
  omega
theorem lt2_tot {a b : Int × Int} (h : ¬ lt2 a b) (hne : a ≠ b) : lt2 b a := by
  unfold lt2 at *
  have : ¬ (a.1 = b.1 ∧ a.2 = b.2) := fun e => hne (Prod.ext e.1 e.2)
  omega
theorem ins2_pw (x : Int × Int) : ∀ l, l.Pairwise lt2 → x ∉ l → (ins2 x l).Pairwise lt2
  | [], _, _ => by simp [ins2]
  | y :: l, h, hx => by
    have hx' : x ≠ y ∧ x ∉ l := by simpa using hx
    rw [List.pairwise_cons] at h
    rw [ins2]
    split
    · rename_i hlt
      rw [List.pairwise_cons]
      refine ⟨fun z hz => ?_, ins2_pw x l h.2 hx'.2⟩
      rcases (mem_ins2 x z l).mp hz with q | q
      · rw [q]
        exact (lt_d2 _ _).mp hlt
      · exact h.1 z q
    · rename_i hlt
      have hxy : lt2 x y := lt2_tot (fun q => hlt ((lt_d2 _ _).mpr q)) (Ne.symm hx'.1)
      rw [List.pairwise_cons]
      refine ⟨fun z hz => ?_, List.pairwise_cons.mpr h⟩
      rcases List.mem_cons.mp hz with q | q
      · rw [q]
        exact hxy
      · exact lt2_trans hxy (h.1 z q)
theorem sort2_pw : ∀ l, l.Nodup → (sort2 l).Pairwise lt2
  | [], _ => List.Pairwise.nil
  | x :: l, h => by
    rw [List.nodup_cons] at h
    rw [sort2]
    exact ins2_pw x _ (sort2_pw l h.2) fun q => h.1 ((mem_sort2 x l).mp q)
theorem sorted_uniq : ∀ l1 l2 : List (Int × Int), l1.Pairwise lt2 → l2.Pairwise lt2 → (∀ x, x ∈ l1 ↔ x ∈ l2) → l1 = l2
  | [], [], _, _, _ => rfl
  | [], b :: l2, _, _, h => absurd ((h b).mpr List.mem_cons_self) (by simp)
  | a :: l1, [], _, _, h => absurd ((h a).mp List.mem_cons_self) (by simp)
  | a :: l1, b :: l2, h1, h2, h => by
    rw [List.pairwise_cons] at h1 h2
    have hab : a = b := by
      rcases List.mem_cons.mp ((h a).mp List.mem_cons_self) with q | q
      · exact q
      · rcases List.mem_cons.mp ((h b).mpr List.mem_cons_self) with q2 | q2
        · exact q2.symm
        · exact absurd rfl (lt2_ne (lt2_trans (h1.1 b q2) (h2.1 a q)))
    subst hab
    rw [sorted_uniq l1 l2 h1.2 h2.2 fun x => ?_]
    constructor
    · intro q
      rcases List.mem_cons.mp ((h x).mp (List.mem_cons_of_mem _ q)) with q2 | q2
      · exact absurd q2.symm (lt2_ne (h1.1 x q))
      · exact q2
    · intro q
      rcases List.mem_cons.mp ((h x).mpr (List.mem_cons_of_mem _ q)) with q2 | q2
      · exact absurd q2.symm (lt2_ne (h2.1 x q))
      · exact q2
theorem sortable_2 (T : List (Int × Int)) : sortable (T.map d2) = true := by
  unfold sortable
  simp only [Bool.and_eq_true, Bool.or_eq_true]
  refine ⟨⟨⟨noDics_map d2 (fun _ => rfl) T, ?_⟩, .inl ?_⟩, ?_⟩
  · unfold alikeAllB
    simp only [List.all_map, List.all_eq_true]
    intro x _
    simp only [Function.comp_apply, List.all_eq_true]
    intro y _
    simp [d2, Dat.py, pys, PySem.W.alike, PySem.W.alikeAll]
  · simp only [List.all_map, List.all_eq_true]
    intro x _
    rfl
  · simp only [List.all_map, List.all_eq_true]
    intro x _
    simp [d2, Dat.py, pys, PyData.depth, PyData.depthAll]
/-- pairs put in order -/
theorem bi_sorted2 (L L' : List (Int × Int)) (hn : L.Nodup) (hs : L'.Pairwise lt2) (hm : ∀ x, x ∈ L ↔ x ∈ L') : biD .sorted [.lst (L.map d2)] = some (.lst (pl d2 L')) := by
  show (if sortable (L.map d2) then some (dl (sortD (L.map d2))) else none) = _
  rw [if_pos (sortable_2 L), sort2_eq, sorted_uniq _ L' (sort2_pw L hn) hs (fun x => (mem_sort2 x L).trans (hm x)), pl_dl]
/-! ### sorted rows keep what they hold -/
theorem insL_perm (x : Dat) : ∀ l, (sortD.insL x l).Perm (x :: l)
  | [] => List.Perm.refl _
  | y :: l => by
    rw [sortD.insL]
    split
    · exact ((insL_perm x l).cons y).trans (List.Perm.swap x y l)
    · exact List.Perm.refl _
theorem sortD_perm : ∀ l, (sortD l).Perm l
  | [] => List.Perm.refl _
  | x :: l => by
    rw [sortD]
    exact (insL_perm x _).trans ((sortD_perm l).cons x)
def pos (q : Q4) : Int × Int := (q.a, q.b)
def posD : Dat → Int × Int
  | .tup (.int a :: .int b :: _) => (a, b)
  | _ => (0, 0)
theorem sortable_q (T : List Q4) : sortable (T.map d4) = true := by
  unfold sortable
  simp only [Bool.and_eq_true, Bool.or_eq_true]
  refine ⟨⟨⟨noDics_map d4 (fun _ => rfl) T, ?_⟩, .inl ?_⟩, ?_⟩
  · unfold alikeAllB
    simp only [List.all_map, List.all_eq_true]
    intro x _
    simp only [Function.comp_apply, List.all_eq_true]
    intro y _
    simp [d4_eq, Dat.py, pys, PySem.W.alike, PySem.W.alikeAll]
  · simp only [List.all_map, List.all_eq_true]
    intro x _
    rfl
  · simp only [List.all_map, List.all_eq_true]
    intro x _
    simp [d4_eq, Dat.py, pys, PyData.depth, PyData.depthAll]
theorem bi_sorted_q (T : List Q4) : ∃ T' : List Q4, biD .sorted [.lst (T.map d4)] = some (.lst (pl d4 T')) ∧ T'.length = T.length ∧ (T'.map pos).Perm (T.map pos) := by
  obtain ⟨T', e, hl⟩ := sort_map d4 T
  refine ⟨T', ?_, hl, ?_⟩
  · show (if sortable (T.map d4) then some (dl (sortD (T.map d4))) else none) = _
    rw [if_pos (sortable_q T), e, pl_dl]
  · have hp := sortD_perm (T.map d4)
    rw [e] at hp
    have hp2 := hp.map posD
    simp only [List.map_map] at hp2
    have ef : (posD ∘ d4) = pos := by
      funext q
      rfl
    rw [ef] at hp2
    exact hp2
/-! ### loops and comprehensions by number -/
theorem seqN_inv {f : Dat → Sto → FR} (P : Nat → Sto → Prop) : ∀ (n : Nat) (k : Nat) (σ : Sto), P k σ → (∀ (j : Nat) (τ : Sto), k ≤ j → j < k + n → P j τ → ∃ τ', (f (.int (j : Int)) τ = .nx τ' ∨ f (.int (j : Int)) τ = .cont τ') ∧ P (j + 1) τ') → ∃ σ', seqR f 1 n (k : Int) σ = .nx σ' ∧ P (k + n) σ'
  | 0, k, σ, h, _ => ⟨σ, rfl, h⟩
  | n + 1, k, σ, h, s => by
    obtain ⟨τ, e, h1⟩ := s k σ (Nat.le_refl _) (by omega) h
    obtain ⟨σ', e2, h2⟩ := seqN_inv P n (k + 1) τ h1 fun j τ hj hj2 hp => s j τ (by omega) (by omega) hp
    refine ⟨σ', ?_, by rw [show k + (n + 1) = k + 1 + n from by omega]; exact h2⟩
    have ek : ((k + 1 : Nat) : Int) = (k : Int) + 1 := by omega
    rw [ek] at e2
    rcases e with e | e <;> simp [seqR, e, e2]
theorem compL_some {f : Dat → Sto → Res (Option PV)} {P : Sto → Prop} {g : Dat → Option PV} : ∀ (xs : List Dat) (acc : List PV) (σ : Sto), P σ → (∀ x ∈ xs, ∀ τ, P τ → ∃ τ', f x τ = .ok (g x) τ' ∧ P τ') → acc.length + xs.length ≤ sizeLine → ∃ σ', compL f xs acc σ = .ok (acc ++ xs.filterMap g) σ' ∧ P σ'
  | [], acc, σ, h, _, _ => ⟨σ, by simp [compL], h⟩
  | x :: xs, acc, σ, h, st, hl => by
    obtain ⟨τ, e, h1⟩ := st x List.mem_cons_self σ h
    have hl' : acc.length < sizeLine := by simp at hl; omega
    cases hg : g x with
    | none =>
      obtain ⟨σ', e2, h2⟩ := compL_some (f := f) (P := P) (g := g) xs acc τ h1 (fun y hy => st y (List.mem_cons_of_mem _ hy)) (by simp at hl ⊢; omega)
      exact ⟨σ', by simp [compL, e, hg, e2], h2⟩
    | some v =>
      obtain ⟨σ', e2, h2⟩ := compL_some (f := f) (P := P) (g := g) xs (acc ++ [v]) τ h1 (fun y hy => st y (List.mem_cons_of_mem _ hy)) (by simp at hl ⊢; omega)
      exact ⟨σ', by simp [compL, e, hg, hl', e2], h2⟩
/-- over items told by a function: those that the test keeps -/
theorem compL_fmap {α : Type} {f : Dat → Sto → Res (Option PV)} {P : Sto → Prop} (F : α → Dat) (G : α → Option PV) : ∀ (L : List α) (acc : List PV) (σ : Sto), P σ → (∀ x ∈ L, ∀ τ, P τ → ∃ τ', f (F x) τ = .ok (G x) τ' ∧ P τ') → acc.length + L.length ≤ sizeLine → ∃ σ', compL f (L.map F) acc σ = .ok (acc ++ L.filterMap G) σ' ∧ P σ'
  | [], acc, σ, h, _, _ => ⟨σ, by simp [compL], h⟩
  | x :: L, acc, σ, h, st, hl => by
    obtain ⟨τ, e, h1⟩ := st x List.mem_cons_self σ h
    have hl' : acc.length < sizeLine := by simp at hl; omega
    cases hg : G x with
    | none =>
      obtain ⟨σ', e2, h2⟩ := compL_fmap F G L acc τ h1 (fun y hy => st y (List.mem_cons_of_mem _ hy)) (by simp at hl ⊢; omega)
      exact ⟨σ', by simp [compL, e, hg, e2], h2⟩
    | some v =>
      obtain ⟨σ', e2, h2⟩ := compL_fmap F G L (acc ++ [v]) τ h1 (fun y hy => st y (List.mem_cons_of_mem _ hy)) (by simp at hl ⊢; omega)
      exact ⟨σ', by simp [compL, e, hg, hl', e2], h2⟩
/-- .. all of them -/
theorem compL_map {α : Type} {f : Dat → Sto → Res (Option PV)} {P : Sto → Prop} (F : α → Dat) (G : α → PV) (L : List α) (σ : Sto) (h : P σ) (st : ∀ x ∈ L, ∀ τ, P τ → ∃ τ', f (F x) τ = .ok (some (G x)) τ' ∧ P τ') (hl : L.length ≤ sizeLine) : ∃ σ', compL f (L.map F) [] σ = .ok (L.map G) σ' ∧ P σ' := by
  obtain ⟨σ', e, h'⟩ := compL_fmap F (fun x => some (G x)) L [] σ h st (by simpa using hl)
  refine ⟨σ', ?_, h'⟩
  rw [e, List.nil_append, List.filterMap_eq_map']
theorem enumD_map {α : Type} (F : α → Dat) : ∀ (L : List α) (n : Nat), enumD n (L.map F) = (L.zipIdx n).map fun q => .tup [.int (q.2 : Nat), F q.1]
  | [], n => rfl
  | x :: L, n => by
    rw [List.map_cons, enumD, enumD_map F L (n + 1)]
    rfl
theorem its_range2 {a b : Nat} (ha : a < 2 ^ 62) (hb : b < 2 ^ 62) : itsOf .range [.int (a : Int), .int (b : Int)] = some (.r a 1 (b - a)) := by
  show (if inR (a : Int) && inR (b : Int) then some (Its.r a 1 ((b : Int) - a).toNat) else none) = _
  rw [inR_mk (by omega) (by omega), inR_mk (by omega) (by omega), show ((b : Int) - a).toNat = b - a from by omega]
  rfl
theorem frzs_mapG {α : Type} (G : α → PV) : ∀ L : List α, frzs (L.map G) = L.map fun x => (G x).frz
  | [] => rfl
  | x :: L => by simp [frzs_mapG G L]
theorem compN_some {f : Dat → Sto → Res (Option PV)} {P : Sto → Prop} {g : Nat → Option PV} : ∀ (n k : Nat) (acc : List PV) (σ : Sto), P σ → (∀ j, k ≤ j → j < k + n → ∀ τ, P τ → ∃ τ', f (.int (j : Int)) τ = .ok (g j) τ' ∧ P τ') → acc.length + n ≤ sizeLine → ∃ σ', compR f 1 n (k : Int) acc σ = .ok (acc ++ (List.range' k n).filterMap g) σ' ∧ P σ'
  | 0, k, acc, σ, h, _, _ => ⟨σ, by simp [compR], h⟩
  | n + 1, k, acc, σ, h, st, hl => by
    obtain ⟨τ, e, h1⟩ := st k (Nat.le_refl _) (by omega) σ h
    have hl' : acc.length < sizeLine := by omega
    have ek : ((k + 1 : Nat) : Int) = (k : Int) + 1 := by omega
    cases hg : g k with
    | none =>
      obtain ⟨σ', e2, h2⟩ := compN_some (f := f) (P := P) (g := g) n (k + 1) acc τ h1 (fun j hj hj2 => st j (by omega) (by omega)) (by omega)
      rw [ek] at e2
      exact ⟨σ', by simp [compR, e, hg, e2, List.range'_succ], h2⟩
    | some v =>
      obtain ⟨σ', e2, h2⟩ := compN_some (f := f) (P := P) (g := g) n (k + 1) (acc ++ [v]) τ h1 (fun j hj hj2 => st j (by omega) (by omega)) (by simp; omega)
      rw [ek] at e2
      exact ⟨σ', by simp [compR, e, hg, hl', e2, List.range'_succ], h2⟩
/-! ### sizes -/
theorem flat_ints {α : Type} (f : α → Int) : ∀ l : List α, flatDs (l.map fun q => Dat.int (f q)) = true
  | [] => rfl
  | x :: l => by simp [flatDs, flatD, flat_ints f l]
theorem sz_ints {α : Type} (f : α → Int) : ∀ l : List α, szDs (l.map fun q => Dat.int (f q)) = l.length
  | [] => rfl
  | x :: l => by simp [szDs, szD, sz_ints f l]; omega
theorem flat_map {α : Type} (f : α → Dat) (h : ∀ x, flatD (f x) = true) : ∀ l : List α, flatDs (l.map f) = true
  | [] => rfl
  | x :: l => by simp [flatDs, h x, flat_map f h l]
theorem sz_map {α : Type} (f : α → Dat) (b : Nat) (h : ∀ x, szD (f x) ≤ b) : ∀ l : List α, szDs (l.map f) ≤ l.length * b
  | [] => by simp [szDs]
  | x :: l => by
    have := h x
    have := sz_map f b h l
    rw [List.map_cons, szDs, List.length_cons, Nat.succ_mul]
    omega
end R

/-! B7: ints in order; a leading that is drawn level by level. -/
namespace R
open PySem PySem.Spec L2
open PyProof.Rows hiding St
/-! ### ints in order -/
def insI (x : Int) : List Int → List Int
  | [] => [x]
  | y :: r => if y < x then y :: insI x r else x :: y :: r
def sortI : List Int → List Int
  | [] => []
  | x :: r => insI x (sortI r)
theorem lt_int (a b : Int) : PySem.W.dataLt (Dat.int a).py (Dat.int b).py = decide (a < b) := by
  simp [Dat.py, PySem.W.dataLt, PySem.W.keyToks, PyProof.Rows.lexLt, itemLt]
theorem insI_eq (x : Int) : ∀ l, sortD.insL (.int x) (l.map .int) = (insI x l).map .int
  | [] => rfl
  | y :: l => by
    rw [List.map_cons, sortD.insL, insI, lt_int]
    by_cases h : y < x
    · simp [h, insI_eq x l]
    · simp [h]
theorem sortI_eq : ∀ l, sortD (l.map .int) = (sortI l).map .int
  | [] => rfl
  | x :: l => by rw [List.map_cons, sortD, sortI_eq l, insI_eq, sortI]
theorem mem_insI (x z : Int) : ∀ l, z ∈ insI x l → z = x ∨ z ∈ l
  | [], h => by simpa [insI] using h
  | y :: l, h => by
    rw [insI] at h
    split at h
    · rcases List.mem_cons.mp h with q | q
      · exact .inr (by simp [q])
      · rcases mem_insI x z l q with q | q
        · exact .inl q
        · exact .inr (by simp [q])
    · simpa using h
theorem mem_sortI (z : Int) : ∀ l, z ∈ sortI l → z ∈ l
  | [], h => by simp [sortI] at h
  | x :: l, h => by
    rcases mem_insI x z _ h with q | q
    · simp [q]
    · exact List.mem_cons_of_mem _ (mem_sortI z l q)
theorem len_insI (x : Int) : ∀ l, (insI x l).length = l.length + 1
  | [] => rfl
  | y :: l => by
    rw [insI]
    split <;> simp [len_insI x l]
theorem len_sortI : ∀ l, (sortI l).length = l.length
  | [] => rfl
  | x :: l => by rw [sortI, len_insI, len_sortI l, List.length_cons]
theorem pw_insI (x : Int) : ∀ l, l.Pairwise (· ≤ ·) → (insI x l).Pairwise (· ≤ ·)
  | [], _ => by simp [insI]
  | y :: l, h => by
    rw [List.pairwise_cons] at h
    rw [insI]
    split
    · rename_i hlt
      rw [List.pairwise_cons]
      refine ⟨fun z hz => ?_, pw_insI x l h.2⟩
      rcases mem_insI x z l hz with q | q
      · omega
      · exact h.1 z q
    · rename_i hlt
      rw [List.pairwise_cons]
      refine ⟨fun z hz => ?_, List.pairwise_cons.mpr h⟩
      rcases List.mem_cons.mp hz with q | q
      · omega
      · have := h.1 z q
        omega
theorem pw_sortI : ∀ l, (sortI l).Pairwise (· ≤ ·)
  | [] => List.Pairwise.nil
  | x :: l => pw_insI x _ (pw_sortI l)
theorem sortable_i (T : List Int) : sortable (T.map .int) = true := by
  unfold sortable
  simp only [Bool.and_eq_true, Bool.or_eq_true]
  refine ⟨⟨⟨noDics_map _ (fun _ => rfl) T, ?_⟩, .inr ?_⟩, ?_⟩
  · unfold alikeAllB
    simp only [List.all_map, List.all_eq_true]
    intro x _
    simp only [Function.comp_apply, List.all_eq_true]
    intro y _
    simp [Dat.py, PySem.W.alike]
  · simp only [List.all_map, List.all_eq_true]
    intro x _
    rfl
  · simp only [List.all_map, List.all_eq_true]
    intro x _
    simp [Dat.py, PyData.depth]
theorem bi_sortedI (L : List Int) : biD .sorted [.lst (L.map .int)] = some (.lst (pl .int (sortI L))) := by
  show (if sortable (L.map .int) then some (dl (sortD (L.map .int))) else none) = _
  rw [if_pos (sortable_i L), sortI_eq, pl_dl]
theorem bi_sorted2' (L : List (Int × Int)) : biD .sorted [.lst (L.map d2)] = some (.lst (pl d2 (sort2 L))) := by
  show (if sortable (L.map d2) then some (dl (sortD (L.map d2))) else none) = _
  rw [if_pos (sortable_2 L), sort2_eq, pl_dl]
theorem len_ins2 (x : Int × Int) : ∀ l, (ins2 x l).length = l.length + 1
  | [] => rfl
  | y :: l => by
    rw [ins2]
    split <;> simp [len_ins2 x l]
theorem len_sort2 : ∀ l, (sort2 l).length = l.length
  | [] => rfl
  | x :: l => by rw [sort2, len_ins2, len_sort2 l, List.length_cons]
/-! ### items by number -/
def gI (L : List Int) (k : Nat) : Int := L.getD k 0
theorem at_int (L : List Int) (k : Nat) (h : k < L.length) : L2.atI (L.map Dat.int) (k : Int) = some (.int ((gI L k))) := by
  rw [at_map Dat.int L k h]
  simp [gI, h]
theorem idx_pl {α : Type} (f : α → Dat) (L : List α) (k : Nat) (h : k < L.length) : idxP (.lst (pl f L)) (.int (k : Int)) = some (f L[k]) := by
  have : L2.atI (pl f L) (k : Int) = some (.d (f L[k])) := by
    unfold pl
    rw [R.atI_nat (by simpa using h)]
    simp
  show ((L2.atI (pl f L) (k : Int)).bind _) = _
  rw [this]
  rfl
theorem idx_plI (L : List Int) (k : Nat) (h : k < L.length) : idxP (.lst (pl .int L)) (.int (k : Int)) = some (.int ((gI L k))) := by
  rw [idx_pl Dat.int L k h]
  simp [gI, h]
theorem idx_last {α : Type} (f : α → Dat) (L : List α) (x : α) : idxP (.lst (pl f (L ++ [x]))) (.int (-1)) = some (f x) := by
  have : L2.atI (pl f (L ++ [x])) (-1) = some (.d (f x)) := by
    unfold L2.atI L2.ixN pl
    have h1 : ¬ ((0 : Int) ≤ -1) := by omega
    have h2 : (1 : Int) ≤ (L.length : Int) + 1 := by omega
    have h3 : (-1 + ((L.length : Int) + 1)).toNat = L.length := by omega
    simp [h1, h2, h3]
  show ((L2.atI (pl f (L ++ [x])) (-1)).bind _) = _
  rw [this]
  rfl
theorem getD_snoc_lt {L : List Int} {v : Int} {k : Nat} (h : k < L.length) : gI (L ++ [v]) k = gI L k := by
  simp [gI, List.getD_eq_getElem?_getD, List.getElem?_append_left h]
theorem getD_snoc_eq {L : List Int} {v : Int} : gI (L ++ [v]) L.length = v := by
  simp [gI, List.getD_eq_getElem?_getD]
/-! ### whole numbers from lo on -/
def irange (lo : Int) : Nat → List Int
  | 0 => []
  | n + 1 => lo :: irange (lo + 1) n
theorem irange_len (lo : Int) : ∀ n, (irange lo n).length = n
  | 0 => rfl
  | n + 1 => by rw [irange, List.length_cons, irange_len (lo + 1) n]
theorem compI_some {f : Dat → Sto → Res (Option PV)} {P : Sto → Prop} {g : Int → Option PV} : ∀ (n : Nat) (lo : Int) (acc : List PV) (σ : Sto), P σ → (∀ i, lo ≤ i → i < lo + n → ∀ τ, P τ → ∃ τ', f (.int i) τ = .ok (g i) τ' ∧ P τ') → acc.length + n ≤ sizeLine → ∃ σ', compR f 1 n lo acc σ = .ok (acc ++ (irange lo n).filterMap g) σ' ∧ P σ'
  | 0, lo, acc, σ, h, _, _ => ⟨σ, by simp [compR, irange], h⟩
  | n + 1, lo, acc, σ, h, st, hl => by
    obtain ⟨τ, e, h1⟩ := st lo (by omega) (by omega) σ h
    have hl' : acc.length < sizeLine := by omega
    cases hg : g lo with
    | none =>
      obtain ⟨σ', e2, h2⟩ := compI_some (f := f) (P := P) (g := g) n (lo + 1) acc τ h1 (fun j hj hj2 => st j (by omega) (by omega)) (by omega)
      exact ⟨σ', by simp [compR, e, hg, e2, irange], h2⟩
    | some v =>
      obtain ⟨σ', e2, h2⟩ := compI_some (f := f) (P := P) (g := g) n (lo + 1) (acc ++ [v]) τ h1 (fun j hj hj2 => st j (by omega) (by omega)) (by simp; omega)
      exact ⟨σ', by simp [compR, e, hg, hl', e2, irange], h2⟩
theorem its_rangeI {a b : Int} (ha : -(2 ^ 62) ≤ a) (ha2 : a < 2 ^ 62) (hb : -(2 ^ 62) ≤ b) (hb2 : b < 2 ^ 62) : itsOf .range [.int a, .int b] = some (.r a 1 (b - a).toNat) := by
  show (if inR a && inR b then some (Its.r a 1 (b - a).toNat) else none) = _
  rw [inR_mk ha ha2, inR_mk hb hb2]
  rfl
/-! ### a leading's levels -/
def rowL (L : List Int) : Dat := .lst (L.map .int)
theorem rowL_eq (L : List Int) : rowL L = .lst (L.map .int) := rfl
/-- a level: the columns in order, within the floor -/
structure Lev (h : Nat) (c : Int) (L : List Int) : Prop where
  len : L.length = h
  bd : ∀ k, k < h → 0 ≤ (gI L k) ∧ (gI L k) < c
  inc : ∀ k, k + 1 < h → (gI L k) < (gI L (k + 1))
structure Nxt (h : Nat) (now after : List Int) : Prop where
  up : ∀ k, k + 1 < h → (gI now k) < (gI after (k + 1))
  down : ∀ k, k + 1 < h → (gI after k) < (gI now (k + 1))
/-- the first i of the next level -/
structure Prt (h : Nat) (c : Int) (now L : List Int) (i : Nat) : Prop where
  len : L.length = i
  le : i ≤ h
  bd : ∀ k, k < i → 0 ≤ (gI L k) ∧ (gI L k) < c
  up : ∀ k, k + 1 < i → (gI now k) < (gI L (k + 1)) ∧ (gI L k) < (gI L (k + 1))
  down : ∀ k, k < i → k + 1 < h → (gI L k) < (gI now (k + 1))
def Takes (C : CF) (tk : Nat) : Prop := ∀ (L : List Int) (m : Int), ∃ r L', C tk [.lst (pl .int L), .d (.int m)] = .ok (.d (.int r)) [.lst (pl .int L'), .d (.int m)] ∧ (m < 2 → r = 0) ∧ (2 ≤ m → 0 ≤ r ∧ r < m)
def eLow : E := .ite (.cmp .gt (.get 10) (.lit (.int 0))) (.bin .add (.bi .max2 [(.idxv 8 (.bin .sub (.get 10) (.lit (.int 1)))), (.idxv 9 (.bin .sub (.get 10) (.lit (.int 1))))]) (.lit (.int 1))) (.lit (.int 0))
def eHigh : E := .ite (.cmp .lt (.bin .add (.get 10) (.lit (.int 1))) (.vw 3)) (.bin .sub (.idxv 8 (.bin .add (.get 10) (.lit (.int 1)))) (.lit (.int 1))) (.bin .sub (.get 1) (.lit (.int 1)))
def bIn (tk : Nat) : List S := [
      .set 11 eLow,
      .set 12 eHigh,
      .ite (.cmp .eq (.call tk [.lend 0, (.lit (.int 3))]) (.lit (.int 1))) [
        .expr (.meth .append 9 [(.idxv 8 (.get 10))])] [
        .expr (.meth .append 9 [(.bin .add (.get 11) (.call tk [.lend 0, (.bin .add (.bin .sub (.get 12) (.get 11)) (.lit (.int 1)))]))])]]
def lowI (now L : List Int) (i : Nat) : Int := if 0 < i then max ((gI now (i - 1))) ((gI L (i - 1))) + 1 else 0
def highI (h : Nat) (c : Int) (now : List Int) (i : Nat) : Int := if i + 1 < h then (gI now (i + 1)) - 1 else c - 1
theorem low_ev (C : CF) (h : Nat) (now L : List Int) (i : Nat) (hn : now.length = h) (hi : i < h) (hL : L.length = i) (a0 a1 a2 a3 a4 a5 a6 a7 a11 a12 a13 : Option PV) : evalE C eLow [a0, a1, a2, a3, a4, a5, a6, a7, some (.d (rowL now)), some (.lst (pl .int L)), some (.d (.int i)), a11, a12, a13] =
    .ok (.d (.int (lowI now L i))) [a0, a1, a2, a3, a4, a5, a6, a7, some (.d (rowL now)), some (.lst (pl .int L)), some (.d (.int i)), a11, a12, a13] := by
  by_cases h0 : 0 < i
  · have ei : (i : Int) - 1 = ((i - 1 : Nat) : Int) := by omega
    have e1 := at_int now (i - 1) (by omega)
    have e2 := idx_plI L (i - 1) (by omega)
    have hp : (0 : Int) < (i : Int) := by omega
    rw [lowI, if_pos h0]
    have hz : ¬ i = 0 := by omega
    simp [eLow, hp, ei, rowL, e1, e2, hz]
  · have hz : i = 0 := by omega
    subst hz
    simp [eLow, lowI]
theorem high_ev (C : CF) (h : Nat) (c : Int) (now : List Int) (i : Nat) (hn : now.length = h) (hi : i < h) (a0 a2 a4 a5 a6 a7 a9 a11 a12 a13 : Option PV) : evalE C eHigh [a0, some (.d (.int c)), a2, some (.d (.int h)), a4, a5, a6, a7, some (.d (rowL now)), a9, some (.d (.int i)), a11, a12, a13] =
    .ok (.d (.int (highI h c now i))) [a0, some (.d (.int c)), a2, some (.d (.int h)), a4, a5, a6, a7, some (.d (rowL now)), a9, some (.d (.int i)), a11, a12, a13] := by
  have ei : (i : Int) + 1 = ((i + 1 : Nat) : Int) := by omega
  by_cases h0 : i + 1 < h
  · have e1 := at_int now (i + 1) (by omega)
    have hp : ((i + 1 : Nat) : Int) < (h : Int) := by omega
    rw [highI, if_pos h0]
    simp only [eHigh]
    simp [-Int.natCast_add, ei, hp, rowL, e1]
  · have hp : ¬ ((i + 1 : Nat) : Int) < (h : Int) := by omega
    rw [highI, if_neg h0]
    simp only [eHigh]
    simp [-Int.natCast_add, ei, hp]
theorem prt_step {h : Nat} {c : Int} {now L : List Int} {i : Nat} (hn : Lev h c now) (hp : Prt h c now L i) (hi : i < h) {v : Int} (h1 : lowI now L i ≤ v) (h2 : v ≤ highI h c now i) : Prt h c now (L ++ [v]) (i + 1) := by
  have hl := hp.len
  have key : ∀ k, k < i + 1 → gI (L ++ [v]) k = if k = i then v else (gI L k) := fun k hk => by
    by_cases e : k = i
    · rw [if_pos e, e, ← hl]
      exact getD_snoc_eq
    · rw [if_neg e]
      exact getD_snoc_lt (by omega)
  have lo0 : 0 ≤ lowI now L i := by
    unfold lowI
    split
    · have := (hn.bd (i - 1) (by omega)).1
      omega
    · exact Int.le_refl _
  have hic : highI h c now i < c := by
    unfold highI
    split
    · rename_i q
      have := (hn.bd (i + 1) q).2
      omega
    · omega
  refine ⟨by simp [hl], by omega, fun k hk => ?_, fun k hk => ?_, fun k hk hk2 => ?_⟩
  · rw [key k hk]
    split
    · omega
    · exact hp.bd k (by omega)
  · rw [key (k + 1) (by omega), key k (by omega)]
    by_cases e : k + 1 = i
    · have hk' : ¬ k = i := by omega
      rw [if_pos e, if_neg hk']
      have h0 : 0 < i := by omega
      rw [lowI, if_pos h0, show i - 1 = k from by omega] at h1
      omega
    · have hk' : ¬ k = i := by omega
      rw [if_neg e, if_neg hk']
      exact hp.up k (by omega)
  · rw [key k hk]
    by_cases e : k = i
    · rw [if_pos e]
      rw [highI, if_pos (by omega), ← e] at h2
      omega
    · rw [if_neg e]
      exact hp.down k (by omega) hk2
theorem low_le {h : Nat} {c : Int} {now L : List Int} {i : Nat} (hn : Lev h c now) (hp : Prt h c now L i) (hi : i < h) : lowI now L i ≤ (gI now i) ∧ (gI now i) ≤ highI h c now i := by
  constructor
  · unfold lowI
    split
    · rename_i h0
      have a := hn.inc (i - 1) (by omega)
      have b := hp.down (i - 1) (by omega) (by omega)
      rw [show i - 1 + 1 = i from by omega] at a b
      omega
    · exact (hn.bd i hi).1
  · unfold highI
    split
    · rename_i h0
      have a := hn.inc i h0
      omega
    · have := (hn.bd i hi).2
      omega
theorem in_turn (C : CF) (fu tk : Nat) (ht : Takes C tk) (h : Nat) (c : Int) (P now L : List Int) (i : Nat) (hn : Lev h c now) (hp : Prt h c now L i) (hi : i < h) (hs : h < 1000) (a2 a4 a5 a6 a7 a10 a11 a12 a13 : Option PV) :
    ∃ P' v y11 y12, turnF C fu (.n 10) (bIn tk) (.int i) [some (.lst (pl .int P)), some (.d (.int c)), a2, some (.d (.int h)), a4, a5, a6, a7, some (.d (rowL now)), some (.lst (pl .int L)), a10, a11, a12, a13] =
      .nx [some (.lst (pl .int P')), some (.d (.int c)), a2, some (.d (.int h)), a4, a5, a6, a7, some (.d (rowL now)), some (.lst (pl .int (L ++ [v]))), some (.d (.int i)), y11, y12, a13] ∧ Prt h c now (L ++ [v]) (i + 1) := by
  obtain ⟨r, P1, e1, _⟩ := ht P 3
  have el := low_ev C h now L i hn.len hi hp.len (some (.lst (pl .int P))) (some (.d (.int c))) a2 (some (.d (.int h))) a4 a5 a6 a7 a11 a12 a13
  have eh := high_ev C h c now i hn.len hi (some (.lst (pl .int P))) a2 a4 a5 a6 a7 (some (.lst (pl .int L))) (some (.d (.int (lowI now L i)))) a12 a13
  obtain ⟨l1, l2⟩ := low_le hn hp hi
  have ea := at_int now i (by rw [hn.len]; exact hi)
  have hlen : L.length < sizeLine := lt_line (by rw [hp.len]; omega)
  by_cases hr : r = 1
  · have ep := meth_push Dat.int L hlen ((gI now i))
    refine ⟨P1, (gI now i), some (.d (.int (lowI now L i))), some (.d (.int (highI h c now i))), ?_, prt_step hn hp hi l1 l2⟩
    simp only [turnF, bIn]
    simp [el, eh, takeL, giveL, lendOf, e1, hr]
    simp [rowL, ea, ep]
  · obtain ⟨q, P2, e2, q0, q1⟩ := ht P1 (highI h c now i - lowI now L i + 1)
    have hq : 0 ≤ q ∧ q ≤ highI h c now i - lowI now L i := by
      by_cases h2 : highI h c now i - lowI now L i + 1 < 2
      · have := q0 h2
        omega
      · have := q1 (by omega)
        omega
    have ep := meth_push Dat.int L hlen (lowI now L i + q)
    refine ⟨P2, lowI now L i + q, some (.d (.int (lowI now L i))), some (.d (.int (highI h c now i))), ?_, prt_step hn hp hi (by omega) (by omega)⟩
    simp only [turnF, bIn]
    simp [el, eh, takeL, giveL, lendOf, e1, hr, e2, ep]
end R

/-! B8: a leading that is drawn, whole. -/
namespace R
open PySem PySem.Spec L2
open PyProof.Rows hiding St
/-- a comprehension of draws -/
theorem compN_ex {f : Dat → Sto → Res (Option PV)} {P : Sto → Prop} {Rv : Int → Prop} : ∀ (n : Nat) (k : Int) (acc : List PV) (σ : Sto), P σ → (∀ (j : Int) (τ : Sto), k ≤ j → j < k + n → P τ → ∃ v τ', f (.int j) τ = .ok (some (.d (.int v))) τ' ∧ P τ' ∧ Rv v) → acc.length + n ≤ sizeLine →
    ∃ (L : List Int) (σ' : Sto), compR f 1 n k acc σ = .ok (acc ++ pl .int L) σ' ∧ P σ' ∧ L.length = n ∧ ∀ x ∈ L, Rv x
  | 0, k, acc, σ, h, _, _ => ⟨[], σ, by simp [compR, pl], h, rfl, by simp⟩
  | n + 1, k, acc, σ, h, st, hl => by
    obtain ⟨v, τ, e, h1, hv⟩ := st k σ (by omega) (by omega) h
    have hl' : acc.length < sizeLine := by omega
    obtain ⟨L, σ', e2, h2, l2, m2⟩ := compN_ex n (k + 1) (acc ++ [.d (.int v)]) τ h1 (fun j τ a b => st j τ (by omega) (by omega)) (by simp; omega)
    refine ⟨v :: L, σ', ?_, h2, by simp [l2], fun x hx => ?_⟩
    · simp [compR, e, hl', e2, pl]
    · rcases List.mem_cons.mp hx with q | q
      · rw [q]
        exact hv
      · exact m2 x q
theorem compN_map {f : Dat → Sto → Res (Option PV)} {P : Sto → Prop} (g : Nat → PV) (n : Nat) (σ : Sto) (h : P σ) (st : ∀ j, j < n → ∀ τ, P τ → ∃ τ', f (.int (j : Int)) τ = .ok (some (g j)) τ' ∧ P τ') (hl : n ≤ sizeLine) : ∃ σ', compR f 1 n 0 [] σ = .ok ((List.range n).map g) σ' ∧ P σ' := by
  obtain ⟨σ', e, h'⟩ := compN_some (f := f) (P := P) (g := fun j => some (g j)) n 0 [] σ h (fun j _ hj => st j (by omega)) (by simpa using hl)
  refine ⟨σ', ?_, h'⟩
  rw [show ((0 : Nat) : Int) = 0 from rfl] at e
  rw [e, List.nil_append, List.filterMap_eq_map', List.range_eq_range']
theorem prt_nil {h : Nat} {c : Int} {now : List Int} : Prt h c now [] 0 := ⟨rfl, Nat.zero_le _, fun k hk => by omega, fun k hk => by omega, fun k hk => by omega⟩
theorem prt_end {h : Nat} {c : Int} {now L : List Int} (p : Prt h c now L h) : Lev h c L ∧ Nxt h now L :=
  ⟨⟨p.len, p.bd, fun k hk => (p.up k hk).2⟩, ⟨fun k hk => (p.up k hk).1, fun k hk => p.down k (by omega) hk⟩⟩
theorem in_loop (C : CF) (fu tk : Nat) (ht : Takes C tk) (h : Nat) (c : Int) (P now : List Int) (hn : Lev h c now) (hs : h < 1000) (a2 a4 a5 a6 a7 a10 a11 a12 a13 : Option PV) :
    ∃ P' L y10 y11 y12, seqR (turnF C fu (.n 10) (bIn tk)) 1 h 0 [some (.lst (pl .int P)), some (.d (.int c)), a2, some (.d (.int h)), a4, a5, a6, a7, some (.d (rowL now)), some (.lst []), a10, a11, a12, a13] =
      .nx [some (.lst (pl .int P')), some (.d (.int c)), a2, some (.d (.int h)), a4, a5, a6, a7, some (.d (rowL now)), some (.lst (pl .int L)), y10, y11, y12, a13] ∧ Lev h c L ∧ Nxt h now L := by
  obtain ⟨σ', e, P', L, y10, y11, y12, hp, rfl⟩ := seqN_inv (f := turnF C fu (.n 10) (bIn tk)) (fun k τ => ∃ P' L y10 y11 y12, Prt h c now L k ∧ τ = [some (.lst (pl .int P')), some (.d (.int c)), a2, some (.d (.int h)), a4, a5, a6, a7, some (.d (rowL now)), some (.lst (pl .int L)), y10, y11, y12, a13]) h 0
    [some (.lst (pl .int P)), some (.d (.int c)), a2, some (.d (.int h)), a4, a5, a6, a7, some (.d (rowL now)), some (.lst []), a10, a11, a12, a13] ⟨P, [], a10, a11, a12, prt_nil, rfl⟩ fun j τ _ hj ⟨P', L, y10, y11, y12, hp, hy⟩ => by
      subst hy
      obtain ⟨P2, v, z11, z12, e, hp2⟩ := in_turn C fu tk ht h c P' now L j hn hp (by omega) hs a2 a4 a5 a6 a7 y10 y11 y12 a13
      exact ⟨_, .inl e, P2, _, _, z11, z12, hp2, rfl⟩
  rw [Nat.zero_add] at hp
  rw [show ((0 : Nat) : Int) = 0 from rfl] at e
  exact ⟨P', L, y10, y11, y12, e, prt_end hp⟩
/-- levels one after another -/
structure Chn (h : Nat) (c : Int) (Ls : List (List Int)) : Prop where
  lev : ∀ v, v < Ls.length → Lev h c (Ls.getD v [])
  nxt : ∀ v, v + 1 < Ls.length → Nxt h (Ls.getD v []) (Ls.getD (v + 1) [])
theorem chn_snoc {h : Nat} {c : Int} {Ls : List (List Int)} {now after : List Int} (hc : Chn h c (Ls ++ [now])) (hl : Lev h c after) (hn : Nxt h now after) : Chn h c ((Ls ++ [now]) ++ [after]) := by
  generalize hM : Ls ++ [now] = M at hc
  have hlen : M.length = Ls.length + 1 := by rw [← hM]; simp
  have hlast : M.getD Ls.length [] = now := by rw [← hM]; simp
  have k1 : ∀ v, v < M.length → (M ++ [after]).getD v [] = M.getD v [] := fun v hv => by simp [List.getElem?_append_left hv]
  have k2 : (M ++ [after]).getD M.length [] = after := by simp
  refine ⟨fun v hv => ?_, fun v hv => ?_⟩
  · have hv' : v < M.length + 1 := by simpa using hv
    by_cases e : v < M.length
    · rw [k1 v e]
      exact hc.lev v e
    · have e2 : v = M.length := by omega
      rw [e2, k2]
      exact hl
  · have hv' : v + 1 < M.length + 1 := by simpa using hv
    rw [k1 v (by omega)]
    by_cases e : v + 1 < M.length
    · rw [k1 (v + 1) e]
      exact hc.nxt v e
    · have e2 : v + 1 = M.length := by omega
      rw [e2, k2, show v = Ls.length from by omega, hlast]
      exact hn
def bOut (tk : Nat) : List S := [
    .set 8 (.idxv 6 (.neg (.lit (.int 1)))),
    .set 9 (.lst []),
    .for_ .range [(.get 3)] (.n 10) (bIn tk),
    .expr (.meth .append 6 [(.get 9)])]
/-- the levels as they stand in their slot -/
def Lv6 (X : PV) (Ls : List (List Int)) : Prop := X = .lst (pl rowL Ls) ∨ ∃ L0, X = .lst [.lst (pl .int L0)] ∧ Ls = [L0]
theorem out_turn (C : CF) (fu tk : Nat) (ht : Takes C tk) (h : Nat) (c : Int) (P : List Int) (Ls : List (List Int)) (now : List Int) (X6 : PV) (hX : Lv6 X6 (Ls ++ [now])) (hc : Chn h c (Ls ++ [now])) (hs : h < 1000) (hL : Ls.length < 1000) (k : Int) (a2 a4 a5 a7 a8 a9 a10 a11 a12 a13 : Option PV) :
    ∃ P' L y8 y9 y10 y11 y12, turnF C fu (.n 7) (bOut tk) (.int k) [some (.lst (pl .int P)), some (.d (.int c)), a2, some (.d (.int h)), a4, a5, some X6, a7, a8, a9, a10, a11, a12, a13] =
      .nx [some (.lst (pl .int P')), some (.d (.int c)), a2, some (.d (.int h)), a4, a5, some (.lst (pl rowL ((Ls ++ [now]) ++ [L]))), some (.d (.int k)), y8, y9, y10, y11, y12, a13] ∧ Chn h c ((Ls ++ [now]) ++ [L]) := by
  have hn : Lev h c now := by
    have := hc.lev Ls.length (by simp)
    simpa using this
  obtain ⟨P', L, y10, y11, y12, e, hl, hx⟩ := in_loop C fu tk ht h c P now hn hs a2 a4 a5 (some (.lst (pl rowL (Ls ++ [now])))) (some (.d (.int k))) a10 a11 a12 a13
  have hr := its_rangeN (n := h) (by omega)
  have hlen : (Ls ++ [now]).length < sizeLine := lt_line (by simp; omega)
  have ep := meth_push rowL (Ls ++ [now]) hlen L
  refine ⟨P', L, some (.d (rowL now)), some (.d (rowL L)), y10, y11, y12, ?_, chn_snoc hc hl hx⟩
  rcases hX with rfl | ⟨L0, rfl, e0⟩
  · have ei := idx_last rowL Ls now
    simp only [turnF, bOut]
    simp [ei, hr, e]
    simp only [rowL_eq] at ep ⊢
    simp [ep]
  · have hLs : Ls = [] := by
      cases Ls with
      | nil => rfl
      | cons a b => simp at e0
    subst hLs
    have e1 : now = L0 := by simpa using e0
    subst e1
    have ei : idxP (.lst [.lst (pl .int now)]) (.int (-1)) = none := by simp [idxP, L2.atI, L2.ixN]
    have et : thawL [PV.lst (pl .int now)] = pl rowL [now] := by
      show [PV.d (PV.frz (.lst (pl .int now)))] = [PV.d (rowL now)]
      rw [pl_frz]
      rfl
    have ei2 : idxP (.lst (pl rowL [now])) (.int (-1)) = some (rowL now) := idx_last rowL [] now
    simp only [List.nil_append] at e ep ⊢
    simp only [turnF, bOut]
    simp [ei, et, hr, ei2, e]
    simp only [rowL_eq] at ep ⊢
    simp [ep]
def bLead (tk : Nat) : List S := [
  .set 4 (.bin .sub (.get 1) (.get 3)),
  .set 5 (.bi .sorted [(.comp .range [(.get 3)] (.n 10) [] [10] (.call tk [.lend 0, (.bin .add (.get 4) (.lit (.int 1)))]))]),
  .set 6 (.lst [(.comp .range [(.get 3)] (.n 10) [] [10] (.bin .add (.get 10) (.idxv 5 (.get 10))))]),
  .for_ .range [(.get 2)] (.n 7) (bOut tk),
  .ret (.bi .tuple [(.comp .range [(.get 3)] (.n 10) [] [10] (.bi .tuple [(.comp .range [(.bin .add (.get 2) (.lit (.int 1)))] (.n 13) [] [13] (.idx (.idxv 6 (.get 13)) (.get 10)))]))])]
/-- the ways as data: hose i crosses level v at column A i v -/
def dWay (A : Nat → Nat → Int) (r i : Nat) : Dat := .tup ((List.range (r + 1)).map fun v => .int (A i v))
theorem dWay_eq (A : Nat → Nat → Int) (r i : Nat) : dWay A r i = .tup ((List.range (r + 1)).map fun v => .int (A i v)) := rfl
def dLd (A : Nat → Nat → Int) (h r : Nat) : Dat := .tup ((List.range h).map fun i => dWay A r i)
theorem dLd_eq (A : Nat → Nat → Int) (h r : Nat) : dLd A h r = .tup ((List.range h).map fun i => dWay A r i) := rfl
/-- a right leading -/
structure Right (A : Nat → Nat → Int) (h r : Nat) (c : Int) : Prop where
  bd : ∀ i v, i < h → v ≤ r → 0 ≤ A i v ∧ A i v < c
  inc : ∀ i v, i + 1 < h → v ≤ r → A i v < A (i + 1) v
  up : ∀ i v, i + 1 < h → v < r → A i v < A (i + 1) (v + 1)
  down : ∀ i v, i + 1 < h → v < r → A i (v + 1) < A (i + 1) v
def Aof (Ls : List (List Int)) (i v : Nat) : Int := gI (Ls.getD v []) i
theorem right_of {h r : Nat} {c : Int} {Ls : List (List Int)} (hc : Chn h c Ls) (hl : Ls.length = r + 1) : Right (Aof Ls) h r c :=
  ⟨fun i v hi hv => (hc.lev v (by omega)).bd i hi, fun i v hi hv => (hc.lev v (by omega)).inc i hi, fun i v hi hv => (hc.nxt v (by omega)).up i hi, fun i v hi hv => (hc.nxt v (by omega)).down i hi⟩
def lev0 (h : Nat) (sh : List Int) : List Int := (List.range h).map fun (i : Nat) => (i : Int) + gI sh i
theorem lev0_at {h : Nat} {sh : List Int} {k : Nat} (hk : k < h) : gI (lev0 h sh) k = (k : Int) + gI sh k := by
  show (lev0 h sh).getD k 0 = _
  simp [lev0, hk]
theorem lev0_ok {h : Nat} {c : Int} {L : List Int} (hl : L.length = h) (hv : ∀ x ∈ L, 0 ≤ x ∧ x ≤ c - h) : Lev h c (lev0 h (sortI L)) := by
  have hls : (sortI L).length = h := by rw [len_sortI, hl]
  have at_ : ∀ k, k < h → ∃ x ∈ L, gI (sortI L) k = x := fun k hk => by
    have hk' : k < (sortI L).length := by omega
    refine ⟨(sortI L)[k], mem_sortI _ _ (List.getElem_mem hk'), ?_⟩
    simp [gI, hk']
  refine ⟨by simp [lev0], fun k hk => ?_, fun k hk => ?_⟩
  · rw [lev0_at hk]
    obtain ⟨x, hx, e⟩ := at_ k hk
    have := hv x hx
    rw [e]
    omega
  · rw [lev0_at (by omega), lev0_at hk]
    have pw := List.pairwise_iff_getElem.mp (pw_sortI L) k (k + 1) (by omega) (by omega) (by omega)
    have e1 : gI (sortI L) k = (sortI L)[k]'(by omega) := by simp [gI, show k < (sortI L).length from by omega]
    have e2 : gI (sortI L) (k + 1) = (sortI L)[k + 1]'(by omega) := by simp [gI, show k + 1 < (sortI L).length from by omega]
    rw [e1, e2]
    omega
theorem out_loop (C : CF) (fu tk : Nat) (ht : Takes C tk) (h : Nat) (c : Int) (P L0 : List Int) (hl0 : Lev h c L0) (hs : h < 1000) (r : Nat) (hr0 : 0 < r) (hr : r < 900) (a2 a4 a5 a7 a8 a9 a10 a11 a12 a13 : Option PV) :
    ∃ P' Ls y7 y8 y9 y10 y11 y12, seqR (turnF C fu (.n 7) (bOut tk)) 1 r 0 [some (.lst (pl .int P)), some (.d (.int c)), a2, some (.d (.int h)), a4, a5, some (.lst [.lst (pl .int L0)]), a7, a8, a9, a10, a11, a12, a13] =
      .nx [some (.lst (pl .int P')), some (.d (.int c)), a2, some (.d (.int h)), a4, a5, some (.lst (pl rowL Ls)), y7, y8, y9, y10, y11, y12, a13] ∧ Chn h c Ls ∧ Ls.length = r + 1 := by
  obtain ⟨σ', e, P', Ls, now, X6, y7, y8, y9, y10, y11, y12, hX, hc, hl, rfl⟩ := seqN_inv (f := turnF C fu (.n 7) (bOut tk))
    (fun k τ => ∃ P' Ls now X6 y7 y8 y9 y10 y11 y12, Lv6 X6 (Ls ++ [now]) ∧ Chn h c (Ls ++ [now]) ∧ Ls.length = k ∧ τ = [some (.lst (pl .int P')), some (.d (.int c)), a2, some (.d (.int h)), a4, a5, some X6, y7, y8, y9, y10, y11, y12, a13]) r 0
    [some (.lst (pl .int P)), some (.d (.int c)), a2, some (.d (.int h)), a4, a5, some (.lst [.lst (pl .int L0)]), a7, a8, a9, a10, a11, a12, a13]
    ⟨P, [], L0, _, a7, a8, a9, a10, a11, a12, .inr ⟨L0, rfl, rfl⟩, ⟨fun v hv => by
      have : v = 0 := by simpa using hv
      subst this
      exact hl0, fun v hv => by simp at hv⟩, rfl, rfl⟩ fun j τ _ hj ⟨P', Ls, now, X6, y7, y8, y9, y10, y11, y12, hX, hc, hl, hy⟩ => by
      subst hy
      obtain ⟨P2, L, z8, z9, z10, z11, z12, e, hc2⟩ := out_turn C fu tk ht h c P' Ls now X6 hX hc hs (by omega) j a2 a4 a5 y7 y8 y9 y10 y11 y12 a13
      exact ⟨_, .inl e, P2, Ls ++ [now], L, _, _, z8, z9, z10, z11, z12, .inl rfl, hc2, by simp [hl], rfl⟩
  rw [show ((0 : Nat) : Int) = 0 from rfl] at e
  rcases hX with rfl | ⟨L1, rfl, e0⟩
  · exact ⟨P', Ls ++ [now], y7, y8, y9, y10, y11, y12, e, hc, by simp [hl]⟩
  · have := congrArg List.length e0
    rw [List.length_append] at this
    simp only [List.length_cons, List.length_nil] at this
    omega
theorem lead_ok (C : CF) (fu tk : Nat) (ht : Takes C tk) (P : List Int) (c : Int) (r h : Nat) (hc : (h : Int) ≤ c) (hs : h < 1000) (hr0 : 0 < r) (hr : r < 900) :
    ∃ P' A, runFn C fu ⟨4, 14, [], bLead tk⟩ [.lst (pl .int P), .d (.int c), .d (.int r), .d (.int h)] = .ok (.d (dLd A h r)) [.lst (pl .int P'), .d (.int c), .d (.int r), .d (.int h)] ∧ Right A h r c := by
  -- the shifts
  obtain ⟨L, σ1, e1, ⟨P1, y10, rfl⟩, hl, hv⟩ := compN_ex (f := turnC C (.n 10) [] [10] (.call tk [.lend 0, (.bin .add (.get 4) (.lit (.int 1)))]))
    (P := fun τ => ∃ P' y10, τ = [some (.lst (pl .int P')), some (.d (.int c)), some (.d (.int r)), some (.d (.int h)), some (.d (.int (c - h))), none, none, none, none, none, y10, none, none, none]) (Rv := fun x => 0 ≤ x ∧ x ≤ c - h) h 0 []
    [some (.lst (pl .int P)), some (.d (.int c)), some (.d (.int r)), some (.d (.int h)), some (.d (.int (c - h))), none, none, none, none, none, none, none, none, none] ⟨P, none, rfl⟩ (fun j τ _ _ ⟨P', y10, hy⟩ => by
      subst hy
      obtain ⟨q, P2, e, q0, q1⟩ := ht P' (c - h + 1)
      refine ⟨q, [some (.lst (pl .int P2)), some (.d (.int c)), some (.d (.int r)), some (.d (.int h)), some (.d (.int (c - h))), none, none, none, none, none, some (.d (.int j)), none, none, none], by simp [turnC, wipeS, noX, takeL, giveL, lendOf, e], ⟨P2, _, rfl⟩, ?_⟩
      by_cases h2 : c - h + 1 < 2
      · have := q0 h2
        omega
      · have := q1 (by omega)
        omega) (le_line (by simp; omega))
  have hso := bi_sortedI L
  have hr1 := its_rangeN (n := h) (by omega)
  -- the first level
  obtain ⟨σ2, e2, ⟨y2, rfl⟩⟩ := compN_map (f := turnC C (.n 10) [] [10] (.bin .add (.get 10) (.idxv 5 (.get 10)))) (P := fun τ => ∃ y10, τ = [some (.lst (pl .int P1)), some (.d (.int c)), some (.d (.int r)), some (.d (.int h)), some (.d (.int (c - h))), some (.lst (pl .int (sortI L))), none, none, none, none, y10, none, none, none])
    (fun (i : Nat) => .d (.int ((i : Int) + gI (sortI L) i))) h [some (.lst (pl .int P1)), some (.d (.int c)), some (.d (.int r)), some (.d (.int h)), some (.d (.int (c - h))), some (.lst (pl .int (sortI L))), none, none, none, none, none, none, none, none] ⟨none, rfl⟩ (fun j hj τ ⟨y10, hy⟩ => by
      subst hy
      have ei := idx_plI (sortI L) j (by rw [len_sortI, hl]; exact hj)
      exact ⟨_, by simp [turnC, wipeS, noX, ei]; rfl, _, rfl⟩) (le_line (by omega))
  have em : (List.range h).map (fun (i : Nat) => PV.d (.int ((i : Int) + gI (sortI L) i))) = pl .int (lev0 h (sortI L)) := by simp [pl, lev0]
  rw [em] at e2
  -- the levels
  obtain ⟨P3, Ls, y7, y8, y9, y10', y11, y12, e3, hch, hlen⟩ := out_loop C fu tk ht h c P1 (lev0 h (sortI L)) (lev0_ok hl hv) hs r hr0 hr (some (.d (.int r))) (some (.d (.int (c - h)))) (some (.lst (pl .int (sortI L)))) none none none none none none none
  have hr2 := its_rangeN (n := r) (by omega)
  have hR := right_of hch hlen
  -- the ways
  have inner : ∀ (i : Nat), i < h → ∀ (y13 : Option PV), y13 = none → ∃ σ', compR (turnC C (.n 13) [] [13] (.idx (.idxv 6 (.get 13)) (.get 10))) 1 (r + 1) 0 [] [some (.lst (pl .int P3)), some (.d (.int c)), some (.d (.int r)), some (.d (.int h)), some (.d (.int (c - h))), some (.lst (pl .int (sortI L))), some (.lst (pl rowL Ls)), y7, y8, y9, some (.d (.int i)), y11, y12, y13] =
      .ok ((List.range (r + 1)).map fun v => .d (.int (Aof Ls i v))) σ' ∧ ∃ z13, σ' = [some (.lst (pl .int P3)), some (.d (.int c)), some (.d (.int r)), some (.d (.int h)), some (.d (.int (c - h))), some (.lst (pl .int (sortI L))), some (.lst (pl rowL Ls)), y7, y8, y9, some (.d (.int i)), y11, y12, z13] := fun i hi y13 hy13 =>
    compN_map (f := turnC C (.n 13) [] [13] (.idx (.idxv 6 (.get 13)) (.get 10))) (P := fun τ => ∃ z13, τ = [some (.lst (pl .int P3)), some (.d (.int c)), some (.d (.int r)), some (.d (.int h)), some (.d (.int (c - h))), some (.lst (pl .int (sortI L))), some (.lst (pl rowL Ls)), y7, y8, y9, some (.d (.int i)), y11, y12, z13])
      (fun v => .d (.int (Aof Ls i v))) (r + 1) _ ⟨y13, rfl⟩ (fun v hv τ ⟨z13, hz⟩ => by
        subst hz
        have ei := idx_pl rowL Ls v (by omega)
        have e4 : Ls[v]'(by omega) = Ls.getD v [] := by simp [show v < Ls.length from by omega]
        have hlv : (Ls.getD v []).length = h := (hch.lev v (by omega)).len
        have ea : Aof Ls i v = gI (Ls.getD v []) i := rfl
        rw [e4] at ei
        rw [ea]
        generalize Ls.getD v [] = M at ei hlv
        have ej := at_int M i (by omega)
        refine ⟨[some (.lst (pl .int P3)), some (.d (.int c)), some (.d (.int r)), some (.d (.int h)), some (.d (.int (c - h))), some (.lst (pl .int (sortI L))), some (.lst (pl rowL Ls)), y7, y8, y9, some (.d (.int i)), y11, y12, some (.d (.int v))], ?_, _, rfl⟩
        simp only [turnC]
        simp [wipeS, noX, ei]
        simp only [rowL_eq, idxD_lst, ej]
        rfl) (le_line (by omega))
  obtain ⟨σ4, e4, ⟨y4, rfl⟩⟩ := compN_map (f := turnC C (.n 10) [] [10] (.bi .tuple [(.comp .range [(.bin .add (.get 2) (.lit (.int 1)))] (.n 13) [] [13] (.idx (.idxv 6 (.get 13)) (.get 10)))])) (P := fun τ => ∃ z10, τ = [some (.lst (pl .int P3)), some (.d (.int c)), some (.d (.int r)), some (.d (.int h)), some (.d (.int (c - h))), some (.lst (pl .int (sortI L))), some (.lst (pl rowL Ls)), y7, y8, y9, z10, y11, y12, none])
    (fun i => .d (dWay (Aof Ls) r i)) h [some (.lst (pl .int P3)), some (.d (.int c)), some (.d (.int r)), some (.d (.int h)), some (.d (.int (c - h))), some (.lst (pl .int (sortI L))), some (.lst (pl rowL Ls)), y7, y8, y9, none, y11, y12, none] ⟨none, rfl⟩ (fun i hi τ ⟨z10, hz⟩ => by
      subst hz
      obtain ⟨_, ei, z13, rfl⟩ := inner i hi none rfl
      have hr3 := its_rangeN (n := r + 1) (by omega)
      rw [show ((r + 1 : Nat) : Int) = (r : Int) + 1 from by omega] at hr3
      have em2 : ((List.range (r + 1)).map fun v => PV.d (.int (Aof Ls i v))) = pl (fun v => Dat.int (Aof Ls i v)) (List.range (r + 1)) := rfl
      rw [em2] at ei
      exact ⟨[some (.lst (pl .int P3)), some (.d (.int c)), some (.d (.int r)), some (.d (.int h)), some (.d (.int (c - h))), some (.lst (pl .int (sortI L))), some (.lst (pl rowL Ls)), y7, y8, y9, some (.d (.int i)), y11, y12, none], by simp only [turnC]; simp [wipeS, noX, hr3, ei, backS, dWay], _, rfl⟩) (le_line (by omega))
  have em3 : ((List.range h).map fun i => PV.d (dWay (Aof Ls) r i)) = pl (fun i => dWay (Aof Ls) r i) (List.range h) := rfl
  rw [em3] at e4
  refine ⟨P3, Aof Ls, ?_, hR⟩
  simp only [runFn, bLead]
  simp [endC, retC, outA_eq, hr1, wipeS, e1, backS, hso, e2, hr2, e3, e4, dLd]
end R

/-! B9: stretches of a leading, counts, cells: plain facts. -/
namespace R
open PySem PySem.Spec L2
open PyProof.Rows hiding St
def ab (x : Int) : Int := if x < 0 then -x else x
def loA (A : Nat → Nat → Int) (i y : Nat) : Int := min (A i y) (A i (y + 1))
def hiA (A : Nat → Nat → Int) (i y : Nat) : Int := max (A i y) (A i (y + 1))
def sps (A : Nat → Nat → Int) (h y : Nat) : List (Int × Int) := (List.range h).map fun (i : Nat) => (loA A i y, hiA A i y)
theorem sps_len (A : Nat → Nat → Int) (h y : Nat) : (sps A h y).length = h := by simp [sps]
theorem sps_at (A : Nat → Nat → Int) (h y i : Nat) (hi : i < h) : (sps A h y)[i]'(by rw [sps_len]; exact hi) = (loA A i y, hiA A i y) := by simp [sps]
theorem d2_eq (q : Int × Int) : d2 q = .tup [.int q.1, .int q.2] := rfl
@[simp] theorem id20 (q : Int × Int) : idxD (d2 q) (.int 0) = some (.int q.1) := by rw [d2_eq, idxD_tup]; exact at0
@[simp] theorem id21 (q : Int × Int) : idxD (d2 q) (.int 1) = some (.int q.2) := by rw [d2_eq, idxD_tup]; exact at1
theorem idLd (A : Nat → Nat → Int) (h r i : Nat) (hi : i < h) : idxD (dLd A h r) (.int (i : Int)) = some (dWay A r i) := by
  rw [dLd_eq, idxD_tup, at_map (fun i => dWay A r i) (List.range h) i (by simpa using hi)]
  simp
theorem idWay (A : Nat → Nat → Int) (r i v : Nat) (hv : v ≤ r) : idxD (dWay A r i) (.int (v : Int)) = some (.int (A i v)) := by
  rw [dWay_eq, idxD_tup, at_map (fun v => Dat.int (A i v)) (List.range (r + 1)) v (by simp; omega)]
  simp
@[simp] theorem lenLd (A : Nat → Nat → Int) (h r : Nat) : biD .len [dLd A h r] = some (.d (.int h)) := by
  rw [dLd_eq, biD_len_tup]
  simp
@[simp] theorem lenWay (A : Nat → Nat → Int) (r i : Nat) : biD .len [dWay A r i] = some (.d (.int ((r : Int) + 1))) := by
  rw [dWay_eq, biD_len_tup]
  simp
theorem fm_filter {α β : Type} (c : α → Bool) (f : α → β) : ∀ l : List α, (l.filterMap fun x => if c x then some (f x) else none) = (l.filter c).map f
  | [] => rfl
  | x :: l => by
    by_cases h : c x = true
    · simp [h, fm_filter c f l]
    · simp [h, fm_filter c f l]
/-- how many lie left of x -/
def cntL (S : List (Int × Int)) (x : Int) : Nat := (S.filter fun q => decide (q.2 < x)).length
def cntH (S : List (Int × Int)) (x : Int) : Nat := (S.filter fun q => decide (q.1 ≤ x) && decide (x ≤ q.2)).length
/-- a comprehension [1 for .. in S if c] -/
theorem ones {f : Dat → Sto → Res (Option PV)} {P : Sto → Prop} (c : Int × Int → Bool) (S : List (Int × Int)) (hl : S.length ≤ sizeLine) (σ : Sto) (h : P σ) (st : ∀ q ∈ S, ∀ τ, P τ → ∃ τ', f (d2 q) τ = .ok (if c q then some (.d (.int 1)) else none) τ' ∧ P τ') :
    ∃ σ', compL f (S.map d2) [] σ = .ok (pl (fun _ : Int × Int => Dat.int 1) (S.filter c)) σ' ∧ P σ' := by
  obtain ⟨σ', e, h'⟩ := compL_fmap (f := f) (P := P) d2 (fun q => if c q then some (.d (.int 1)) else none) S [] σ h st (by simpa using hl)
  refine ⟨σ', ?_, h'⟩
  rw [e, List.nil_append, fm_filter c (fun _ => PV.d (.int 1))]
  rfl
/-- the first that holds x -/
def hitF : Nat → List (Int × Int) → Int → Option Nat
  | _, [], _ => none
  | n, q :: S, x => if q.1 ≤ x ∧ x ≤ q.2 then some n else hitF (n + 1) S x
def hitO : Option Nat → Dat
  | none => .non
  | some j => .int (j : Int)
theorem hitF_append (x : Int) : ∀ (S T : List (Int × Int)) (n : Nat), hitF n (S ++ T) x = match hitF n S x with
    | some j => some j
    | none => hitF (n + S.length) T x
  | [], T, n => by simp [hitF]
  | q :: S, T, n => by
    rw [List.cons_append, hitF, hitF]
    split
    · rfl
    · rw [hitF_append x S T (n + 1), List.length_cons, show n + 1 + S.length = n + (S.length + 1) from by omega]
theorem hitF_none (x : Int) : ∀ (S : List (Int × Int)) (n : Nat), (∀ q ∈ S, ¬ (q.1 ≤ x ∧ x ≤ q.2)) → hitF n S x = none
  | [], n, _ => rfl
  | q :: S, n, h => by
    rw [hitF, if_neg (h q List.mem_cons_self), hitF_none x S (n + 1) fun p hp => h p (List.mem_cons_of_mem _ hp)]
/-- stretches apart, from the left to the right -/
def Sep (S : List (Int × Int)) : Prop := S.Pairwise fun p q => p.2 < q.1
theorem hit_step {S : List (Int × Int)} (hs : Sep S) (x : Int) (k : Nat) (hk : k < S.length) : hitF 0 (S.take (k + 1)) x = if S[k].1 ≤ x ∧ x ≤ S[k].2 then some k else hitF 0 (S.take k) x := by
  rw [List.take_succ, List.getElem?_eq_getElem hk, Option.toList_some, hitF_append]
  have hl : (S.take k).length = k := by simp; omega
  by_cases h : S[k].1 ≤ x ∧ x ≤ S[k].2
  · have hn : hitF 0 (S.take k) x = none := hitF_none x _ 0 fun q hq ⟨a, b⟩ => by
      obtain ⟨j, hj, rfl⟩ := List.getElem_of_mem hq
      have hj' : j < k := by omega
      have pw := List.pairwise_iff_getElem.mp hs j k (by omega) hk hj'
      rw [List.getElem_take] at b
      omega
    rw [hn, if_pos h]
    simp [hitF, h, hl]
  · rw [if_neg h]
    cases he : hitF 0 (S.take k) x with
    | some j => rfl
    | none =>
      simp [hitF]
      intro a
      have : ¬ (S[k].1 ≤ x ∧ x ≤ S[k].2) := h
      omega
theorem right_sep {A : Nat → Nat → Int} {h r : Nat} {c : Int} (hR : Right A h r c) {y : Nat} (hy : y < r) : Sep (sps A h y) := by
  have nx : ∀ i, i + 1 < h → hiA A i y < loA A (i + 1) y := fun i hi => by
    have a := hR.inc i y hi (by omega)
    have b := hR.inc i (y + 1) hi (by omega)
    have u := hR.up i y hi hy
    have d := hR.down i y hi hy
    unfold hiA loA
    omega
  have lh : ∀ i, loA A i y ≤ hiA A i y := fun i => by unfold hiA loA; omega
  have far : ∀ d i, i + d + 1 < h → hiA A i y < loA A (i + d + 1) y := by
    intro d
    induction d with
    | zero => exact fun i hi => nx i hi
    | succ d ih =>
      intro i hi
      have a := ih i (by omega)
      have b := nx (i + d + 1) (by omega)
      have c := lh (i + d + 1)
      rw [show i + (d + 1) + 1 = i + d + 1 + 1 from by omega]
      omega
  unfold Sep
  rw [List.pairwise_iff_getElem]
  intro i j hi hj hij
  rw [sps_len] at hi hj
  rw [sps_at A h y i hi, sps_at A h y j hj]
  have := far (j - i - 1) i (by omega)
  rw [show i + (j - i - 1) + 1 = j from by omega] at this
  exact this
theorem right_bd {A : Nat → Nat → Int} {h r : Nat} {c : Int} (hR : Right A h r c) {i y : Nat} (hi : i < h) (hy : y < r) : 0 ≤ loA A i y ∧ loA A i y ≤ hiA A i y ∧ hiA A i y < c := by
  have a := hR.bd i y hi (by omega)
  have b := hR.bd i (y + 1) hi (by omega)
  unfold loA hiA
  omega
/-! ### lengths and cells -/
def wl (A : Nat → Nat → Int) (i r : Nat) : Int := ((List.range r).map fun (y : Nat) => ab (A i y - A i (y + 1)) + 1).sum
def nn (A : Nat → Nat → Int) (i y : Nat) : Nat := (hiA A i y + 1 - loA A i y).toNat
def cel (A : Nat → Nat → Int) (i y : Nat) : List (Int × Int) := (irange (loA A i y) (nn A i y)).map fun x => (x, (y : Int))
def cels (A : Nat → Nat → Int) (i k : Nat) : List (Int × Int) := (List.range k).flatMap fun y => cel A i y
theorem cels_succ (A : Nat → Nat → Int) (i k : Nat) : cels A i (k + 1) = cels A i k ++ cel A i k := by
  unfold cels
  rw [List.range_succ, List.flatMap_append]
  simp
theorem cel_len (A : Nat → Nat → Int) (i y : Nat) : ((cel A i y).length : Int) = ab (A i y - A i (y + 1)) + 1 := by
  unfold cel nn
  rw [List.length_map, irange_len]
  unfold hiA loA ab
  split <;> omega
theorem wl_succ (A : Nat → Nat → Int) (i k : Nat) : wl A i (k + 1) = wl A i k + (ab (A i k - A i (k + 1)) + 1) := by
  unfold wl
  rw [List.range_succ, List.map_append, List.sum_append]
  simp
theorem cels_len (A : Nat → Nat → Int) (i : Nat) : ∀ k, ((cels A i k).length : Int) = wl A i k
  | 0 => rfl
  | k + 1 => by
    have a := cels_len A i k
    have b := cel_len A i k
    rw [cels_succ, List.length_append, wl_succ]
    omega
theorem cel_le {A : Nat → Nat → Int} {h r : Nat} {c : Int} (hR : Right A h r c) {i y : Nat} (hi : i < h) (hy : y < r) (hc : c ≤ 1000) : (cel A i y).length ≤ 1000 := by
  obtain ⟨a, b, d⟩ := right_bd hR hi hy
  unfold cel nn
  rw [List.length_map, irange_len]
  omega
theorem cels_le {A : Nat → Nat → Int} {h r : Nat} {c : Int} (hR : Right A h r c) {i : Nat} (hi : i < h) (hc : c ≤ 1000) : ∀ k, k ≤ r → (cels A i k).length ≤ k * 1000
  | 0, _ => by simp [cels]
  | k + 1, hk => by
    have a := cels_le hR hi hc k (by omega)
    have b := cel_le hR hi (y := k) (by omega) hc
    rw [cels_succ, List.length_append, Nat.succ_mul]
    omega
theorem zip_way (A : Nat → Nat → Int) (r i : Nat) : zipD ((List.range (r + 1)).map fun v => Dat.int (A i v)) (((List.range (r + 1)).map fun v => Dat.int (A i v)).drop 1) = (List.range r).map fun v => .tup [.int (A i v), .int (A i (v + 1))] := by
  refine List.ext_getElem ?_ fun k h1 h2 => ?_
  · rw [zipD_len]
    simp
  · have h2' : k < r := by simpa using h2
    have e1 : (zipD ((List.range (r + 1)).map fun v => Dat.int (A i v)) (((List.range (r + 1)).map fun v => Dat.int (A i v)).drop 1))[k]? = some ((zipD ((List.range (r + 1)).map fun v => Dat.int (A i v)) (((List.range (r + 1)).map fun v => Dat.int (A i v)).drop 1))[k]) := List.getElem?_eq_getElem h1
    obtain ⟨x, y, ex, ey, e⟩ := zipD_at _ _ k _ e1
    rw [e]
    have hx : x = .int (A i k) := by
      have : ((List.range (r + 1)).map fun v => Dat.int (A i v))[k]? = some (.int (A i k)) := by simp [show k < r + 1 from by omega]
      rw [this] at ex
      exact (Option.some.inj ex).symm
    have hy : y = .int (A i (k + 1)) := by
      have : (((List.range (r + 1)).map fun v => Dat.int (A i v)).drop 1)[k]? = some (.int (A i (k + 1))) := by
        rw [List.getElem?_drop, List.getElem?_map, List.getElem?_eq_getElem (by simp; omega)]
        simp
        rw [Nat.add_comm]
      rw [this] at ey
      exact (Option.some.inj ey).symm
    rw [hx, hy]
    simp
theorem sl1 (xs : List Dat) : slD (.tup xs) (some 1) none = some (.d (.tup (xs.drop 1))) := by
  show some (PV.d (.tup (cutD xs (some 1) none))) = _
  have : cutD xs (some 1) none = xs.drop 1 := by
    unfold cutD
    have e1 : HT.sIx xs.length 0 (some 1) = min 1 xs.length := by
      have := HT.sIx_nat xs.length 0 1
      exact this
    rw [e1, HT.sIx_none]
    cases xs with
    | nil => rfl
    | cons a l => simp
  rw [this]
theorem ints_map {α : Type} (f : α → Int) : ∀ l : List α, intsD (l.map fun x => Dat.int (f x)) = some (l.map f)
  | [] => rfl
  | x :: l => by simp [intsD, ints_map f l]
theorem bi_sum {α : Type} (f : α → Int) (l : List α) : biD .sum [.lst (l.map fun x => Dat.int (f x))] = some (.d (.int (l.map f).sum)) := by
  show (intsD (l.map fun x => Dat.int (f x))).map _ = _
  rw [ints_map]
  rfl
end R

/-! C1: loops that return at the first item that fails. -/
namespace R
open PySem PySem.Spec L2
open PyProof.Rows hiding St
/-- the first from k on, of n, that fails -/
def fstN (c : Nat → Bool) : Nat → Nat → Option Nat
  | 0, _ => none
  | n + 1, k => if c k then fstN c n (k + 1) else some k
theorem seqN_fst {f : Dat → Sto → FR} (P : Nat → Sto → Prop) (c : Nat → Bool) (ret : Nat → PV) (Pr : Sto → Prop) : ∀ (n k : Nat) (σ : Sto), P k σ →
    (∀ (j : Nat) (τ : Sto), k ≤ j → j < k + n → P j τ → (c j = true ∧ ∃ τ', (f (.int (j : Int)) τ = .nx τ' ∨ f (.int (j : Int)) τ = .cont τ') ∧ P (j + 1) τ') ∨ (c j = false ∧ ∃ τ', f (.int (j : Int)) τ = .ret (ret j) τ' ∧ Pr τ')) →
    (fstN c n k = none ∧ ∃ σ', seqR f 1 n (k : Int) σ = .nx σ' ∧ P (k + n) σ') ∨ (∃ j, fstN c n k = some j ∧ k ≤ j ∧ j < k + n ∧ c j = false ∧ ∃ σ', seqR f 1 n (k : Int) σ = .ret (ret j) σ' ∧ Pr σ')
  | 0, k, σ, h, _ => .inl ⟨rfl, σ, rfl, h⟩
  | n + 1, k, σ, h, st => by
    have ek : ((k + 1 : Nat) : Int) = (k : Int) + 1 := by omega
    rcases st k σ (Nat.le_refl _) (by omega) h with ⟨hc, τ, e, h1⟩ | ⟨hc, τ, e, h1⟩
    · rcases seqN_fst P c ret Pr n (k + 1) τ h1 (fun j τ a b => st j τ (by omega) (by omega)) with ⟨e0, σ', e2, h2⟩ | ⟨j, e0, j1, j2, j3, σ', e2, h2⟩
      · refine .inl ⟨by rw [fstN, if_pos hc, e0], σ', ?_, by rw [show k + (n + 1) = k + 1 + n from by omega]; exact h2⟩
        rw [ek] at e2
        rcases e with e | e <;> simp [seqR, e, e2]
      · refine .inr ⟨j, by rw [fstN, if_pos hc, e0], by omega, by omega, j3, σ', ?_, h2⟩
        rw [ek] at e2
        rcases e with e | e <;> simp [seqR, e, e2]
    · exact .inr ⟨k, by rw [fstN, hc]; rfl, Nat.le_refl _, by omega, hc, τ, by simp [seqR, e], h1⟩
theorem seqE_fst {f : Dat → Sto → FR} (P : Nat → Sto → Prop) (c : Nat → Bool) (ret : Nat → PV) (Pr : Sto → Prop) : ∀ (xs : List Dat) (k : Nat) (σ : Sto), P k σ →
    (∀ (j : Nat) (x : Dat) (τ : Sto), xs[j]? = some x → P (k + j) τ → (c (k + j) = true ∧ ∃ τ', (f (.tup [.int ((k + j : Nat) : Int), x]) τ = .nx τ' ∨ f (.tup [.int ((k + j : Nat) : Int), x]) τ = .cont τ') ∧ P (k + j + 1) τ') ∨ (c (k + j) = false ∧ ∃ τ', f (.tup [.int ((k + j : Nat) : Int), x]) τ = .ret (ret (k + j)) τ' ∧ Pr τ')) →
    (fstN c xs.length k = none ∧ ∃ σ', seqL f (enumD k xs) σ = .nx σ' ∧ P (k + xs.length) σ') ∨ (∃ j, fstN c xs.length k = some j ∧ ∃ σ', seqL f (enumD k xs) σ = .ret (ret j) σ' ∧ Pr σ')
  | [], k, σ, h, _ => .inl ⟨rfl, σ, rfl, h⟩
  | x :: xs, k, σ, h, st => by
    rcases st 0 x σ rfl h with ⟨hc, τ, e, h1⟩ | ⟨hc, τ, e, h1⟩
    · rw [Nat.add_zero] at hc e h1
      rcases seqE_fst P c ret Pr xs (k + 1) τ h1 (fun j y τ a b => by
        have := st (j + 1) y τ (by simpa using a) (by rw [show k + (j + 1) = k + 1 + j from by omega]; exact b)
        rw [show k + (j + 1) = k + 1 + j from by omega] at this
        exact this) with ⟨e0, σ', e2, h2⟩ | ⟨j, e0, σ', e2, h2⟩
      · refine .inl ⟨by rw [List.length_cons, fstN, if_pos hc, e0], σ', ?_, by rw [List.length_cons, show k + (xs.length + 1) = k + 1 + xs.length from by omega]; exact h2⟩
        rcases e with e | e <;> simp [enumD, seqL, e, e2]
      · refine .inr ⟨j, by rw [List.length_cons, fstN, if_pos hc, e0], σ', ?_, h2⟩
        rcases e with e | e <;> simp [enumD, seqL, e, e2]
    · rw [Nat.add_zero] at hc e
      exact .inr ⟨k, by rw [List.length_cons, fstN, hc]; rfl, τ, by simp [enumD, seqL, e], h1⟩
theorem fstN_none {c : Nat → Bool} : ∀ {n k : Nat}, fstN c n k = none → ∀ j, k ≤ j → j < k + n → c j = true
  | 0, k, _, j, h1, h2 => by omega
  | n + 1, k, h, j, h1, h2 => by
    rw [fstN] at h
    by_cases hc : c k = true
    · rw [if_pos hc] at h
      by_cases e : j = k
      · rw [e]
        exact hc
      · exact fstN_none h j (by omega) (by omega)
    · rw [if_neg hc] at h
      cases h
theorem bools_map {α : Type} (f : α → Bool) : ∀ l : List α, boolsD (l.map fun x => Dat.bl (f x)) = some (l.map f)
  | [] => rfl
  | x :: l => by simp [boolsD, bools_map f l]
theorem bi_all {α : Type} (f : α → Bool) (l : List α) : biD .all [.lst (l.map fun x => Dat.bl (f x))] = some (.d (.bl (l.all f))) := by
  show (boolsD (l.map fun x => Dat.bl (f x))).map _ = _
  rw [bools_map]
  simp [List.all_map, Function.comp_def]
/-- stretches apart, each from the next -/
def sepB : List (Int × Int) → Bool
  | p :: q :: S => decide (p.2 < q.1) && sepB (q :: S)
  | _ => true
theorem sepB_zip : ∀ S : List (Int × Int), (S.zip (S.drop 1)).all (fun z => decide (z.1.2 < z.2.1)) = sepB S
  | [] => rfl
  | [p] => rfl
  | p :: q :: S => by
    have := sepB_zip (q :: S)
    simp [sepB] at this ⊢
    rw [this]
theorem zipD_map {α β : Type} (f : α → Dat) (g : β → Dat) : ∀ (l : List α) (m : List β), zipD (l.map f) (m.map g) = (l.zip m).map fun z => .tup [f z.1, g z.2]
  | [], m => by cases m <;> rfl
  | x :: l, [] => rfl
  | x :: l, y :: m => by
    rw [List.map_cons, List.map_cons, zipD, zipD_map f g l m]
    rfl
theorem sepB_fst : ∀ (S : List (Int × Int)) (T : List (Int × Int)) , (sepB S = true ↔ fstN (fun i => decide (((T ++ S).getD i (0, 0)).2 < ((T ++ S).getD (i + 1) (0, 0)).1)) (S.length - 1) T.length = none)
  | [], T => by simp [sepB, fstN]
  | [p], T => by simp [sepB, fstN]
  | p :: q :: S, T => by
    have ih := sepB_fst (q :: S) (T ++ [p])
    have e1 : (T ++ p :: q :: S).getD T.length (0, 0) = p := by simp
    have e2 : (T ++ p :: q :: S).getD (T.length + 1) (0, 0) = q := by simp
    have e3 : (T ++ [p]) ++ q :: S = T ++ p :: q :: S := by simp
    rw [e3] at ih
    have e4 : (p :: q :: S).length - 1 = (q :: S).length - 1 + 1 := by simp
    have e5 : (T ++ [p]).length = T.length + 1 := by simp
    rw [e5] at ih
    rw [e4, fstN, e1, e2, sepB]
    by_cases h : p.2 < q.1
    · simp only [h, decide_true, Bool.true_and, if_true]
      exact ih
    · simp [h]
/-! sums -/
theorem sum_add {α : Type} (f g : α → Int) : ∀ l : List α, (l.map fun x => f x + g x).sum = (l.map f).sum + (l.map g).sum
  | [] => rfl
  | x :: l => by
    simp only [List.map_cons, List.sum_cons, sum_add f g l]
    omega
end R

/-! C2: sameness with lists told from tuples. -/
namespace R
open PySem PySem.Spec L2
open PyProof.Rows hiding St
def b_same2 : List S := [
  .set 2 (.lst [(.tup [(.get 0), (.get 1)])]),
  .for_ .range [(.lit (.int 3000000))] (.n 3) [
    .ite (.cmp .eq (.bi .len [(.vw 2)]) (.lit (.int 0))) [
      .ret (.lit (.bl true))] [],
    .unp (.t [(.n 4), (.n 5)]) (.meth .pop 2 []),
    .ite (.or (.isi (.vw 5) [.tuple]) (.isi (.vw 5) [.list])) [
      .ite (.and (.isi (.vw 5) [.tuple]) (.not (.isi (.vw 4) [.tuple]))) [
        .ret (.lit (.bl false))] [],
      .ite (.and (.isi (.vw 5) [.list]) (.not (.isi (.vw 4) [.list]))) [
        .ret (.lit (.bl false))] [],
      .ite (.cmp .ne (.bi .len [(.vw 4)]) (.bi .len [(.vw 5)])) [
        .ret (.lit (.bl false))] [],
      .for_ .range [(.bi .len [(.vw 5)])] (.n 6) [
        .expr (.meth .append 2 [(.tup [(.idxv 4 (.get 6)), (.idxv 5 (.get 6))])])]] [
      .ite (.cmp .is (.get 5) (.lit .non)) [
        .ite (.cmp .isnot (.get 4) (.lit .non)) [
          .ret (.lit (.bl false))] []] [
        .ite (.isi (.vw 5) [.bool]) [
          .ite (.or (.not (.isi (.vw 4) [.bool])) (.cmp .ne (.get 4) (.vw 5))) [
            .ret (.lit (.bl false))] []] [
          .ite (.isi (.vw 5) [.int]) [
            .ite (.or (.not (.isi (.vw 4) [.int])) (.or (.isi (.vw 4) [.bool]) (.cmp .ne (.get 4) (.vw 5)))) [
              .ret (.lit (.bl false))] []] [
            .ite (.or (.not (.isi (.vw 5) [.str])) (.or (.not (.isi (.vw 4) [.str])) (.cmp .ne (.get 4) (.vw 5)))) [
              .ret (.lit (.bl false))] []]]]]],
  .ret (.lit (.bl false))]
def f_same2 : FnD := ⟨2, 7, [], b_same2⟩
def bS2 : List S := [
    .ite (.cmp .eq (.bi .len [(.vw 2)]) (.lit (.int 0))) [
      .ret (.lit (.bl true))] [],
    .unp (.t [(.n 4), (.n 5)]) (.meth .pop 2 []),
    .ite (.or (.isi (.vw 5) [.tuple]) (.isi (.vw 5) [.list])) [
      .ite (.and (.isi (.vw 5) [.tuple]) (.not (.isi (.vw 4) [.tuple]))) [
        .ret (.lit (.bl false))] [],
      .ite (.and (.isi (.vw 5) [.list]) (.not (.isi (.vw 4) [.list]))) [
        .ret (.lit (.bl false))] [],
      .ite (.cmp .ne (.bi .len [(.vw 4)]) (.bi .len [(.vw 5)])) [
        .ret (.lit (.bl false))] [],
      .for_ .range [(.bi .len [(.vw 5)])] (.n 6) [
        .expr (.meth .append 2 [(.tup [(.idxv 4 (.get 6)), (.idxv 5 (.get 6))])])]] [
      .ite (.cmp .is (.get 5) (.lit .non)) [
        .ite (.cmp .isnot (.get 4) (.lit .non)) [
          .ret (.lit (.bl false))] []] [
        .ite (.isi (.vw 5) [.bool]) [
          .ite (.or (.not (.isi (.vw 4) [.bool])) (.cmp .ne (.get 4) (.vw 5))) [
            .ret (.lit (.bl false))] []] [
          .ite (.isi (.vw 5) [.int]) [
            .ite (.or (.not (.isi (.vw 4) [.int])) (.or (.isi (.vw 4) [.bool]) (.cmp .ne (.get 4) (.vw 5)))) [
              .ret (.lit (.bl false))] []] [
            .ite (.or (.not (.isi (.vw 5) [.str])) (.or (.not (.isi (.vw 4) [.str])) (.cmp .ne (.get 4) (.vw 5)))) [
              .ret (.lit (.bl false))] []]]]]]
theorem same2_turn (C : CF) (fu : Nat) (a b : PV) (x : Dat) (L : List Dat) (lo : Int) (hf : flatD x = true) (hl : L.length + (kids x).length < 1000000) (x3 x4 x5 x6 : Option PV) :
    ∃ y3 y4 y5 y6, turnF C fu (.n 3) bS2 (.int lo) [some a, some b, some (.lst (pl dbl (L ++ [x]))), x3, x4, x5, x6] = .nx [some a, some b, some (.lst (pl dbl (L ++ kids x))), y3, y4, y5, y6] := by
  have hp := meth_pop dbl L x
  have h0 : ¬ ((L.length : Int) + 1 = 0) := by omega
  simp only [dbl] at hp
  cases x with
  | tup xs =>
    have hl' : L.length + xs.length < 1000000 := by simpa only [kids] using hl
    obtain ⟨y6, e⟩ := same_in C fu a b (some (.d (.int lo))) xs L hl' x6
    have hr : itsOf .range [.int (xs.length : Int)] = some (.r 0 1 xs.length) := its_rangeN (by omega)
    exact ⟨some (.d (.int lo)), some (.d (.tup xs)), some (.d (.tup xs)), y6, by simp [turnF, bS2, tyD, hp, h0, hr, e, kids]⟩
  | non => exact ⟨some (.d (.int lo)), some (.d .non), some (.d .non), x6, by simp [turnF, bS2, tyD, hp, h0, kids]⟩
  | int i => exact ⟨some (.d (.int lo)), some (.d (.int i)), some (.d (.int i)), x6, by simp [turnF, bS2, tyD, hp, h0, kids]⟩
  | bl c => exact ⟨some (.d (.int lo)), some (.d (.bl c)), some (.d (.bl c)), x6, by simp [turnF, bS2, tyD, hp, h0, kids, cmp_ne_bl]⟩
  | str z =>
    have hz : PyData.strOk z = true := by simpa [flatD] using hf
    exact ⟨some (.d (.int lo)), some (.d (.str z)), some (.d (.str z)), x6, by simp [turnF, bS2, tyD, hp, h0, kids, cmp_ne_str z hz]⟩
  | lst _ => simp [flatD] at hf
  | dic _ _ => simp [flatD] at hf
  | set _ => simp [flatD] at hf
  | scr _ => simp [flatD] at hf
theorem same2_loop (C : CF) (fu : Nat) (a b : PV) : ∀ (n : Nat) (lo : Int) (L : List Dat) (x3 x4 x5 x6 : Option PV), flatDs L = true → szDs L < n → szDs L < 900000 →
    ∃ y2 y3 y4 y5 y6, seqR (turnF C fu (.n 3) bS2) 1 n lo [some a, some b, some (.lst (pl dbl L)), x3, x4, x5, x6] = .ret (.d (.bl true)) [some a, some b, y2, y3, y4, y5, y6]
  | 0, _, _, _, _, _, _, _, h, _ => by omega
  | n + 1, lo, L, x3, x4, x5, x6, hf, h, h9 => by
    rcases List.eq_nil_or_concat L with rfl | ⟨L0, x, rfl⟩
    · exact ⟨some (.lst (pl dbl [])), some (.d (.int lo)), x4, x5, x6, by simp [seqR, turnF, bS2]⟩
    · have hx : flatD x = true ∧ flatDs L0 = true := by
        have := hf
        simp only [List.concat_eq_append] at this
        rw [flatDs_append, Bool.and_eq_true] at this
        exact ⟨by simpa [flatDs] using this.2, this.1⟩
      have hs : szDs (L0.concat x) = szDs L0 + szD x := by simp [szDs_append, szDs]
      have hk : flatDs (kids x) = true ∧ szDs (kids x) + 1 ≤ szD x := by
        cases x with
        | tup xs => exact ⟨by simpa [flatD, kids] using hx.1, by simp [kids, szD]; omega⟩
        | _ => exact ⟨by simp [kids, flatDs], by simp [kids, szDs, szD]⟩
      have hl1 := szDs_len L0
      have hl2 := szDs_len (kids x)
      obtain ⟨y3, y4, y5, y6, e⟩ := same2_turn C fu a b x L0 lo hx.1 (by omega) x3 x4 x5 x6
      obtain ⟨z2, z3, z4, z5, z6, e2⟩ := same2_loop C fu a b n (lo + 1) (L0 ++ kids x) y3 y4 y5 y6 (by rw [flatDs_append, hx.2, hk.1]; rfl) (by rw [szDs_append]; omega) (by rw [szDs_append]; omega)
      refine ⟨z2, z3, z4, z5, z6, ?_⟩
      rw [List.concat_eq_append, seqR, e]
      exact e2
theorem same2_ok (C : CF) (fu : Nat) (d : Dat) (hf : flatD d = true) (hs : szD d < 899999) : runFn C fu f_same2 [.d d, .d d] = .ok (.d (.bl true)) [.d d, .d d] := by
  obtain ⟨y2, y3, y4, y5, y6, e⟩ := same2_loop C fu (.d d) (.d d) 3000000 0 [d] none none none none (by simp [flatDs, hf]) (by simp [szDs]; omega) (by simp [szDs]; omega)
  have hr : itsOf .range [.int 3000000] = some (.r 0 1 3000000) := rfl
  have e' : seqR (turnF C fu (.n 3) bS2) 1 3000000 0 [some (.d d), some (.d d), some (.lst [.d (.tup [d, d])]), none, none, none, none] = _ := e
  have hb : f_same2 = ⟨2, 7, [], [.set 2 (.lst [(.tup [(.get 0), (.get 1)])]), .for_ .range [(.lit (.int 3000000))] (.n 3) bS2, .ret (.lit (.bl false))]⟩ := rfl
  rw [hb]
  simp [runFn, endC, retC, outA_eq, hr, e']
end R

/-! K14a: bounds (as in K13), rooms (as in K12), the plan that is drawn (as in K12f). -/
namespace Law
open PySem L2 R
open PyProof.Rows hiding St
def FU : Nat := 1000
def N : Nat := 14
abbrev Cn (n : Nat) : CF := callN irs FU n
theorem f_take_eq : f__law_take = R.f_take := rfl
theorem f_same_eq : f__law_same = R.f_same := rfl
theorem f_purse_eq : f__law_purse = R.f_purse := rfl
def plan (c r h : Int) (ps gs : List Q4) : Dat := .tup [.int c, .int r, .int h, .tup (ps.map d4), .tup (gs.map d4)]
theorem plan_eq (c r h : Int) (ps gs : List Q4) : plan c r h ps gs = dP ⟨c, r, h, ps, gs⟩ := rfl
/-! ### the program's own reckoning -/
def gapI (l y : Int) : Int := min (if y - l < 0 then -(y - l) else y - l) (if y - (l - 1) < 0 then -(y - (l - 1)) else y - (l - 1))
theorem c_gap (n : Nat) (a y : Int) : Cn (n + 1) 4 [.d (.int a), .d (.int y)] = .ok (.d (.int (gapI a y))) [.d (.int a), .d (.int y)] := by
  show runFn (Cn n) FU f_level_gap _ = _
  simp [runFn, f_level_gap, b_level_gap, endC, retC, outA_eq, gapI]
def spanL (c h : Int) (g : Q4) : Int := max g.c g.a
def spanR (c h : Int) (g : Q4) : Int := min g.d (c - h + g.a)
theorem c_span (n : Nat) (c r h : Int) (ps gs : List Q4) (g : Q4) : Cn (n + 1) 3 [.d (plan c r h ps gs), .d (d4 g)] = .ok (.d (.tup [.int (spanL c h g), .int (spanR c h g)])) [.d (plan c r h ps gs), .d (d4 g)] := by
  show runFn (Cn n) FU f_real_span _ = _
  simp [runFn, f_real_span, b_real_span, endC, retC, outA_eq, d4, plan, at0, at2, spanL, spanR]
def leastG (g : Q4) (s1 : Int) (p : Q4) : Int := g.a + 1 - (if s1 - p.a < 0 then gapI g.b p.b else max (s1 - p.a) (gapI g.b p.b))
def mostG (g : Q4) (s0 : Int) (p : Q4) : Int := g.a + (if p.a - s0 < 0 then gapI g.b p.b else max (p.a - s0) (gapI g.b p.b))
theorem c_least (n : Nat) (g p : Q4) (s0 s1 : Int) : Cn (n + 2) 5 [.d (d4 g), .d (.tup [.int s0, .int s1]), .d (d4 p)] = .ok (.d (.int (leastG g s1 p))) [.d (d4 g), .d (.tup [.int s0, .int s1]), .d (d4 p)] := by
  show runFn (Cn (n + 1)) FU f_gate_least _ = _
  have e := c_gap n g.b p.b
  by_cases h : s1 - p.a < 0
  · simp [runFn, f_gate_least, b_gate_least, endC, retC, outA_eq, d4, at0, at1, takeL, giveL, lendOf, e, h, leastG]
  · simp [runFn, f_gate_least, b_gate_least, endC, retC, outA_eq, d4, at0, at1, takeL, giveL, lendOf, e, h, leastG]
theorem c_most (n : Nat) (g p : Q4) (s0 s1 : Int) : Cn (n + 2) 6 [.d (d4 g), .d (.tup [.int s0, .int s1]), .d (d4 p)] = .ok (.d (.int (mostG g s0 p))) [.d (d4 g), .d (.tup [.int s0, .int s1]), .d (d4 p)] := by
  show runFn (Cn (n + 1)) FU f_gate_most _ = _
  have e := c_gap n g.b p.b
  by_cases h : p.a - s0 < 0
  · simp [runFn, f_gate_most, b_gate_most, endC, retC, outA_eq, d4, at0, at1, takeL, giveL, lendOf, e, h, mostG]
  · simp [runFn, f_gate_most, b_gate_most, endC, retC, outA_eq, d4, at0, at1, takeL, giveL, lendOf, e, h, mostG]
def boundsF (c h : Int) (p : Q4) : List Q4 → Int × Int → Int × Int
  | [], lm => lm
  | g :: gs, lm => boundsF c h p gs (max lm.1 (leastG g (spanR c h g) p), min lm.2 (mostG g (spanL c h g) p))
def bounds (c h : Int) (gs : List Q4) (p : Q4) : Int × Int := boundsF c h p gs (max p.c (h - (c - 1 - p.a)), min p.d p.a)
def bB : List S := [
    .set 9 (.call 3 [.lend 0, .lend 8]),
    .set 6 (.bi .max2 [(.get 6), (.call 5 [.lend 8, .lend 9, .lend 1])]),
    .set 7 (.bi .min2 [(.get 7), (.call 6 [.lend 8, .lend 9, .lend 1])])]
theorem bounds_loop (n : Nat) (c r h : Int) (ps gs : List Q4) (p : Q4) (a2 a3 a4 a5 : Option PV) : ∀ (l : List Q4) (lm : Int × Int) (x8 x9 : Option PV), ∃ y8 y9,
    seqL (turnF (Cn (n + 2)) FU (.n 8) bB) (l.map d4) [some (.d (plan c r h ps gs)), some (.d (d4 p)), a2, a3, a4, a5, some (.d (.int lm.1)), some (.d (.int lm.2)), x8, x9] =
      .nx [some (.d (plan c r h ps gs)), some (.d (d4 p)), a2, a3, a4, a5, some (.d (.int (boundsF c h p l lm).1)), some (.d (.int (boundsF c h p l lm).2)), y8, y9]
  | [], lm, x8, x9 => ⟨x8, x9, by simp [seqL, boundsF]⟩
  | g :: l, lm, x8, x9 => by
    obtain ⟨y8, y9, e⟩ := bounds_loop n c r h ps gs p a2 a3 a4 a5 l (max lm.1 (leastG g (spanR c h g) p), min lm.2 (mostG g (spanL c h g) p)) (some (.d (d4 g))) (some (.d (.tup [.int (spanL c h g), .int (spanR c h g)])))
    refine ⟨y8, y9, ?_⟩
    have e1 := c_span (n + 1) c r h ps gs g
    have e2 := c_least n g p (spanL c h g) (spanR c h g)
    have e3 := c_most n g p (spanL c h g) (spanR c h g)
    simp only [boundsF, List.map_cons, seqL]
    simp only [turnF] at e ⊢
    simp [bB, takeL, giveL, lendOf, e1, e2, e3] at e ⊢
    exact e
theorem c_bounds (n : Nat) (c r h : Int) (ps gs : List Q4) (p : Q4) : Cn (n + 3) 7 [.d (plan c r h ps gs), .d (d4 p)] = .ok (.d (.tup [.int (bounds c h gs p).1, .int (bounds c h gs p).2])) [.d (plan c r h ps gs), .d (d4 p)] := by
  show runFn (Cn (n + 2)) FU f_bounds_of _ = _
  have hb : f_bounds_of = ⟨2, 10, [], [.unp (.t [(.n 2), (.n 3), (.n 4), (.n 3), (.n 5)]) (.get 0),
    .set 6 (.bi .max2 [(.idxv 1 (.lit (.int 2))), (.bin .sub (.get 4) (.bin .sub (.bin .sub (.get 2) (.lit (.int 1))) (.idxv 1 (.lit (.int 0)))))]),
    .set 7 (.bi .min2 [(.idxv 1 (.lit (.int 3))), (.idxv 1 (.lit (.int 0)))]), .for_ .seq [(.get 5)] (.n 8) bB, .ret (.tup [.mov 6, .mov 7])]⟩ := rfl
  obtain ⟨y8, y9, e⟩ := bounds_loop n c r h ps gs p (some (.d (.int c))) (some (.d (.tup (ps.map d4)))) (some (.d (.int h))) (some (.d (.tup (gs.map d4)))) gs (max p.c (h - (c - 1 - p.a)), min p.d p.a) none none
  rw [hb]
  simp only [plan, d4] at e ⊢
  simp [runFn, endC, retC, outA_eq, at0, at2, at3, e, bounds]
def pr (q : Int × Int) : Dat := .tup [.int q.1, .int q.2]
theorem turn_bl (n : Nat) (c r h : Int) (ps gs : List Q4) (p : Q4) (y : Option PV) : turnC (Cn (n + 3)) (.n 1) [] [1] (.call 7 [.lend 0, .lend 1]) (d4 p) [some (.d (plan c r h ps gs)), y] = .ok (some (.d (pr (bounds c h gs p)))) [some (.d (plan c r h ps gs)), some (.d (d4 p))] := by
  have e := c_bounds n c r h ps gs p
  simp [turnC, wipeS, takeL, giveL, lendOf, e, noX, pr]
theorem c_blist (n : Nat) (c r h : Int) (ps gs : List Q4) (hp : ps.length ≤ 1000) : Cn (n + 4) 8 [.d (plan c r h ps gs)] = .ok (.lst (pl pr (ps.map (bounds c h gs)))) [.d (plan c r h ps gs)] := by
  show runFn (Cn (n + 3)) FU f_bound_list _ = _
  obtain ⟨σ', e, y, rfl⟩ := compL_all (f := turnC (Cn (n + 3)) (.n 1) [] [1] (.call 7 [.lend 0, .lend 1])) (P := fun τ => ∃ y, τ = [some (.d (plan c r h ps gs)), y])
    (g := fun x => match x with
      | .tup [.int a, .int b, .int cc, .int d] => .d (pr (bounds c h gs ⟨a, b, cc, d⟩))
      | x => .d x) (ps.map d4) [] [some (.d (plan c r h ps gs)), none] ⟨none, rfl⟩ (fun x hx τ ⟨y, hy⟩ => by
      obtain ⟨p, _, rfl⟩ := List.mem_map.mp hx
      subst hy
      exact ⟨_, turn_bl n c r h ps gs p y, _, rfl⟩) (le_line (by simpa using hp))
  have em : (ps.map d4).map (fun x => match x with
      | .tup [.int a, .int b, .int cc, .int d] => PV.d (pr (bounds c h gs ⟨a, b, cc, d⟩))
      | x => .d x) = pl pr (ps.map (bounds c h gs)) := by
    simp [pl, d4]
  rw [List.nil_append, em] at e
  have e3 : ∀ y : Option PV, evalE (Cn (n + 3)) (.idxv 0 (.lit (.int 3))) [some (.d (plan c r h ps gs)), y] = .ok (.d (.tup (ps.map d4))) [some (.d (plan c r h ps gs)), y] := fun y => by
    simp [plan, at3]
  simp [runFn, f_bound_list, b_bound_list, endC, retC, outA_eq, e3, wipeS, e, backS]
/-! ### one peg's bounds, or the word -/
theorem c_peg_ok (n : Nat) (c r h : Int) (ps gs : List Q4) (k : Int) (h0 : 0 ≤ k) (h1 : k < ps.length) : Cn (n + 1) 0 [.d (plan c r h ps gs), .d (.int k)] = .ok (.d .non) [.d (plan c r h ps gs), .d (.int k)] := by
  show runFn (Cn n) FU f_peg_or_raise _ = _
  have h0' : ¬ k < 0 := by omega
  simp [runFn, f_peg_or_raise, b_peg_or_raise, endC, retC, outA_eq, plan, at3, h0', h1]
theorem c_peg_no (n : Nat) (c r h : Int) (ps gs : List Q4) (k : Int) (hk : k < 0 ∨ (ps.length : Int) ≤ k) : Cn (n + 1) 0 [.d (plan c r h ps gs), .d (.int k)] = .exc "BadStep" [("word", .str "peg")] [.d (plan c r h ps gs), .d (.int k)] := by
  show runFn (Cn n) FU f_peg_or_raise _ = _
  by_cases h0 : k < 0
  · simp [runFn, f_peg_or_raise, b_peg_or_raise, endC, retC, outA_eq, plan, at3, h0]
  · have h1 : ¬ k < ps.length := by omega
    simp [runFn, f_peg_or_raise, b_peg_or_raise, endC, retC, outA_eq, plan, at3, h0, h1]
/-! ### the law's own reckoning -/
theorem c_real (n : Nat) (c r h : Int) (ps gs : List Q4) (g : Q4) : Cn (n + 1) 26 [.d (plan c r h ps gs), .d (d4 g)] = .ok (.d (.tup [.int (spanL c h g), .int (spanR c h g)])) [.d (plan c r h ps gs), .d (d4 g)] := by
  show runFn (Cn n) FU f__law_real _ = _
  simp [runFn, f__law_real, b__law_real, endC, retC, outA_eq, d4, plan, at0, at1, at2, at3, spanL, spanR]
theorem apart_eq (l y : Int) : min (max (y - l) (l - y)) (max (y - l + 1) (l - 1 - y)) = gapI l y := by
  unfold gapI
  split <;> split <;> omega
def bI : List S := [
      .unp (.t [(.n 9), (.n 10)]) (.call 26 [.lend 0, .lend 8]),
      .set 11 (.bi .min2 [(.bi .max2 [(.bin .sub (.get 3) (.idxv 8 (.lit (.int 1)))), (.bin .sub (.idxv 8 (.lit (.int 1))) (.get 3))]), (.bi .max2 [(.bin .add (.bin .sub (.get 3) (.idxv 8 (.lit (.int 1)))) (.lit (.int 1))), (.bin .sub (.bin .sub (.idxv 8 (.lit (.int 1))) (.lit (.int 1))) (.get 3))])]),
      .set 6 (.bi .max2 [(.get 6), (.bin .sub (.bin .add (.idxv 8 (.lit (.int 0))) (.lit (.int 1))) (.ite (.cmp .le (.get 2) (.vw 10)) (.bi .max2 [(.bin .sub (.get 10) (.get 2)), (.get 11)]) (.get 11)))]),
      .set 7 (.bi .min2 [(.get 7), (.bin .add (.idxv 8 (.lit (.int 0))) (.ite (.cmp .ge (.get 2) (.vw 9)) (.bi .max2 [(.bin .sub (.get 2) (.get 9)), (.get 11)]) (.get 11)))])]
theorem in_turn (n : Nat) (c r h : Int) (ps gs : List Q4) (p g : Q4) (a1 a4 a5 : Option PV) (lm : Int × Int) (x8 x9 x10 x11 : Option PV) :
    turnF (Cn (n + 1)) FU (.n 8) bI (d4 g) [some (.d (plan c r h ps gs)), a1, some (.d (.int p.a)), some (.d (.int p.b)), a4, a5, some (.d (.int lm.1)), some (.d (.int lm.2)), x8, x9, x10, x11] =
      .nx [some (.d (plan c r h ps gs)), a1, some (.d (.int p.a)), some (.d (.int p.b)), a4, a5, some (.d (.int (max lm.1 (leastG g (spanR c h g) p)))), some (.d (.int (min lm.2 (mostG g (spanL c h g) p)))), some (.d (d4 g)), some (.d (.int (spanL c h g))), some (.d (.int (spanR c h g))), some (.d (.int (gapI g.b p.b)))] := by
  have e1 := c_real n c r h ps gs g
  have e2 := apart_eq g.b p.b
  by_cases h1 : spanR c h g < p.a
  · have h1' : spanR c h g - p.a < 0 := by omega
    by_cases h2 : p.a < spanL c h g
    · have h2' : p.a - spanL c h g < 0 := by omega
      simp only [d4] at e1 ⊢
      simp [turnF, bI, takeL, giveL, lendOf, e1, at0, at1, e2, h1, h2, leastG, mostG, h1', h2']
    · have h2' : ¬ p.a - spanL c h g < 0 := by omega
      simp only [d4] at e1 ⊢
      simp [turnF, bI, takeL, giveL, lendOf, e1, at0, at1, e2, h1, h2, leastG, mostG, h1', h2']
  · have h1' : ¬ spanR c h g - p.a < 0 := by omega
    by_cases h2 : p.a < spanL c h g
    · have h2' : p.a - spanL c h g < 0 := by omega
      simp only [d4] at e1 ⊢
      simp [turnF, bI, takeL, giveL, lendOf, e1, at0, at1, e2, h1, h2, leastG, mostG, h1', h2']
    · have h2' : ¬ p.a - spanL c h g < 0 := by omega
      simp only [d4] at e1 ⊢
      simp [turnF, bI, takeL, giveL, lendOf, e1, at0, at1, e2, h1, h2, leastG, mostG, h1', h2']
theorem in_loop (n : Nat) (c r h : Int) (ps gs : List Q4) (p : Q4) (a1 a4 a5 : Option PV) : ∀ (l : List Q4) (lm : Int × Int) (x8 x9 x10 x11 : Option PV), ∃ y8 y9 y10 y11,
    seqL (turnF (Cn (n + 1)) FU (.n 8) bI) (l.map d4) [some (.d (plan c r h ps gs)), a1, some (.d (.int p.a)), some (.d (.int p.b)), a4, a5, some (.d (.int lm.1)), some (.d (.int lm.2)), x8, x9, x10, x11] =
      .nx [some (.d (plan c r h ps gs)), a1, some (.d (.int p.a)), some (.d (.int p.b)), a4, a5, some (.d (.int (boundsF c h p l lm).1)), some (.d (.int (boundsF c h p l lm).2)), y8, y9, y10, y11]
  | [], lm, x8, x9, x10, x11 => ⟨x8, x9, x10, x11, by simp [seqL, boundsF]⟩
  | g :: l, lm, x8, x9, x10, x11 => by
    obtain ⟨y8, y9, y10, y11, e⟩ := in_loop n c r h ps gs p a1 a4 a5 l (max lm.1 (leastG g (spanR c h g) p), min lm.2 (mostG g (spanL c h g) p)) (some (.d (d4 g))) (some (.d (.int (spanL c h g)))) (some (.d (.int (spanR c h g)))) (some (.d (.int (gapI g.b p.b))))
    exact ⟨y8, y9, y10, y11, by rw [List.map_cons, seqL, in_turn]; exact e⟩
def bO : List S := [
    .par [6, 7] [(.bi .max2 [(.get 4), (.bin .sub (.idxv 0 (.lit (.int 2))) (.bin .sub (.bin .sub (.idxv 0 (.lit (.int 0))) (.lit (.int 1))) (.get 2)))]), (.bi .min2 [(.get 5), (.get 2)])],
    .for_ .seq [(.idxv 0 (.lit (.int 4)))] (.n 8) bI,
    .expr (.meth .append 1 [(.tup [(.get 6), (.get 7)])])]
theorem out_turn (n : Nat) (c r h : Int) (ps gs : List Q4) (p : Q4) (L : List (Int × Int)) (hl : L.length < sizeLine) (x2 x3 x4 x5 x6 x7 x8 x9 x10 x11 : Option PV) : ∃ y2 y3 y4 y5 y6 y7 y8 y9 y10 y11,
    turnF (Cn (n + 1)) FU (.t [(.n 2), (.n 3), (.n 4), (.n 5)]) bO (d4 p) [some (.d (plan c r h ps gs)), some (.lst (pl pr L)), x2, x3, x4, x5, x6, x7, x8, x9, x10, x11] =
      .nx [some (.d (plan c r h ps gs)), some (.lst (pl pr (L ++ [bounds c h gs p]))), y2, y3, y4, y5, y6, y7, y8, y9, y10, y11] := by
  obtain ⟨y8, y9, y10, y11, e⟩ := in_loop n c r h ps gs p (some (.lst (pl pr L))) (some (.d (.int p.c))) (some (.d (.int p.d))) gs (max p.c (h - (c - 1 - p.a)), min p.d p.a) x8 x9 x10 x11
  refine ⟨some (.d (.int p.a)), some (.d (.int p.b)), some (.d (.int p.c)), some (.d (.int p.d)), some (.d (.int (bounds c h gs p).1)), some (.d (.int (bounds c h gs p).2)), y8, y9, y10, y11, ?_⟩
  have hp := meth_push pr L hl (bounds c h gs p)
  simp only [pr, bounds] at hp
  simp only [plan] at e ⊢
  simp only [turnF, d4_eq, bO, bounds]
  simp [at0, at2, at4, e, hp, setL]
theorem c_lawb (n : Nat) (c r h : Int) (ps gs : List Q4) (hl : ps.length ≤ 1000) : Cn (n + 2) 27 [.d (plan c r h ps gs)] = .ok (.lst (pl pr (ps.map (bounds c h gs)))) [.d (plan c r h ps gs)] := by
  show runFn (Cn (n + 1)) FU f__law_bounds _ = _
  have hb : f__law_bounds = ⟨1, 12, [], [.set 1 (.lst []), .for_ .seq [(.idxv 0 (.lit (.int 3)))] (.t [(.n 2), (.n 3), (.n 4), (.n 5)]) bO, .ret (.mov 1)]⟩ := rfl
  obtain ⟨σ', e, L, y2, y3, y4, y5, y6, y7, y8, y9, y10, y11, hL, rfl⟩ := seqL_inv (f := turnF (Cn (n + 1)) FU (.t [(.n 2), (.n 3), (.n 4), (.n 5)]) bO)
    (fun k τ => ∃ L y2 y3 y4 y5 y6 y7 y8 y9 y10 y11, L = (ps.take k).map (bounds c h gs) ∧ τ = [some (.d (plan c r h ps gs)), some (.lst (pl pr L)), y2, y3, y4, y5, y6, y7, y8, y9, y10, y11]) (ps.map d4) 0 _ ⟨[], none, none, none, none, none, none, none, none, none, none, by simp, rfl⟩ fun j x τ hj hp => by
      obtain ⟨L, y2, y3, y4, y5, y6, y7, y8, y9, y10, y11, rfl, rfl⟩ := hp
      rw [List.getElem?_map] at hj
      cases hq : ps[j]? with
      | none => rw [hq] at hj; cases hj
      | some q =>
        rw [hq] at hj
        cases hj
        have hjl : j < ps.length := (List.getElem?_eq_some_iff.mp hq).1
        obtain ⟨z2, z3, z4, z5, z6, z7, z8, z9, z10, z11, e⟩ := out_turn n c r h ps gs q ((ps.take (0 + j)).map (bounds c h gs)) (lt_line (by simp; omega)) y2 y3 y4 y5 y6 y7 y8 y9 y10 y11
        refine ⟨_, .inl e, _, z2, z3, z4, z5, z6, z7, z8, z9, z10, z11, ?_, rfl⟩
        rw [Nat.zero_add, List.take_succ, hq]
        simp
  have hL' : L = ps.map (bounds c h gs) := by rw [hL]; simp
  subst hL'
  have e' : ∀ y2 y3 y4 y5 y6 y7 y8 y9 y10 y11, evalE (Cn (n + 1)) (.idxv 0 (.lit (.int 3))) [some (.d (plan c r h ps gs)), some (.lst []), y2, y3, y4, y5, y6, y7, y8, y9, y10, y11] = .ok (.d (.tup (ps.map d4))) [some (.d (plan c r h ps gs)), some (.lst []), y2, y3, y4, y5, y6, y7, y8, y9, y10, y11] := fun _ _ _ _ _ _ _ _ _ _ => by
    simp [plan, at3]
  have e0 : (PV.lst [] : PV) = .lst (pl pr []) := Eq.refl _
  rw [e0] at e'
  rw [hb]
  simp only [runFn]
  simp [-ev_idxv, e0, e', e, endC, retC, outA_eq]
/-! ### the purse and what is drawn of it -/
theorem c_take (n : Nat) (L : List Int) (m : Int) : ∃ r L', Cn (n + 1) 21 [.lst (pl .int L), .d (.int m)] = .ok (.d (.int r)) [.lst (pl .int L'), .d (.int m)] ∧ (m < 2 → r = 0) ∧ (2 ≤ m → 0 ≤ r ∧ r < m) := by
  obtain ⟨r, L', e, h⟩ := take_ok (Cn n) FU L m
  exact ⟨r, L', e, h⟩
theorem c_purse (n : Nat) (ns : List Int) (salt : Int) (many : Nat) (hm : many < 1000000) : ∃ L, Cn (n + 1) 20 [.d (.scr (ns.map .int)), .d (.int salt), .d (.int many)] = .ok (.lst (pl .int L)) [.d (.scr (ns.map .int)), .d (.int salt), .d (.int many)] := by
  obtain ⟨L, e⟩ := purse_ok (Cn n) FU ns salt many hm
  exact ⟨L, e⟩
theorem c_same (n : Nat) (d : Dat) (hf : flatD d = true) (hs : szD d < 899999) : Cn (n + 1) 22 [.d d, .d d] = .ok (.d (.bl true)) [.d d, .d d] := same_ok (Cn n) FU d hf hs
def ab (x : Int) : Int := if x < 0 then -x else x
theorem ab_max (a b : Int) : max (b - a) (a - b) = ab (b - a) := by
  unfold ab
  split <;> omega
def roomI (p q : Q4) : Int := if 0 < q.a - p.a then max (q.a - p.a) (ab (q.b - p.b)) - 1 else if q.a - p.a = 0 then ab (q.b - p.b) - 1 else max (ab (q.b - p.b) - 1) 0
theorem k_room (n : Nat) (p q : Q4) : Cn (n + 1) 1 [.d (d4 p), .d (d4 q)] = .ok (.d (.int (roomI p q))) [.d (d4 p), .d (d4 q)] := by
  show runFn (Cn n) FU f_room _ = _
  by_cases h1 : 0 < q.a - p.a
  · have h1' : p.a < q.a := by omega
    have e : roomI p q = max (q.a - p.a) (ab (q.b - p.b)) - 1 := if_pos h1
    rw [e]
    simp [runFn, f_room, b_room, endC, retC, outA_eq, setL, h1, h1', ab]
  · have h1' : ¬ p.a < q.a := by omega
    have e : roomI p q = if q.a - p.a = 0 then ab (q.b - p.b) - 1 else max (ab (q.b - p.b) - 1) 0 := if_neg h1
    rw [e]
    by_cases h2 : q.a - p.a = 0
    · rw [if_pos h2]
      simp [runFn, f_room, b_room, endC, retC, outA_eq, setL, h1, h1', h2, ab]
    · rw [if_neg h2]
      simp [runFn, f_room, b_room, endC, retC, outA_eq, setL, h1, h1', h2, ab]
theorem k_lroom (n : Nat) (p q : Q4) : Cn (n + 1) 25 [.d (d4 p), .d (d4 q)] = .ok (.d (.int (roomI p q))) [.d (d4 p), .d (d4 q)] := by
  show runFn (Cn n) FU f__law_room _ = _
  have em := ab_max p.b q.b
  by_cases h1 : 0 < q.a - p.a
  · have h1' : p.a < q.a := by omega
    have e : roomI p q = max (q.a - p.a) (ab (q.b - p.b)) - 1 := if_pos h1
    rw [e]
    simp [runFn, f__law_room, b__law_room, endC, retC, outA_eq, setL, h1, h1', em]
  · have h1' : ¬ p.a < q.a := by omega
    have e : roomI p q = if q.a - p.a = 0 then ab (q.b - p.b) - 1 else max (ab (q.b - p.b) - 1) 0 := if_neg h1
    rw [e]
    by_cases h2 : q.a - p.a = 0
    · rw [if_pos h2]
      simp [runFn, f__law_room, b__law_room, endC, retC, outA_eq, setL, h1, h1', h2, em]
    · rw [if_neg h2]
      simp [runFn, f__law_room, b__law_room, endC, retC, outA_eq, setL, h1, h1', h2, em]
def bT1 : List S := [
    .par [9, 10] [(.call 21 [.lend 0, .lend 1]), (.call 21 [.lend 0, .lend 2])],
    .ite (.cmp .notmem (.tup [(.get 9), (.get 10)]) (.vw 7)) [
      .expr (.meth .append 7 [(.tup [(.get 9), (.get 10)])]),
      .set 11 (.call 21 [.lend 0, (.bin .add (.get 3) (.lit (.int 1)))]),
      .expr (.meth .append 6 [(.tup [(.get 9), (.get 10), (.get 11), (.bi .min2 [(.get 3), (.bin .add (.get 11) (.idx (.tup [(.lit (.int 0)), (.lit (.int 0)), (.lit (.int 1)), (.get 3)]) (.call 21 [.lend 0, (.lit (.int 4))])))])])])] []]
theorem nodup_snoc {P : List (Int × Int)} {q : Int × Int} (h : P.Nodup) (hq : q ∉ P) : (P ++ [q]).Nodup := by
  unfold List.Nodup at *
  rw [List.pairwise_append]
  exact ⟨h, by simp, fun a ha b hb => by
    simp at hb
    subst hb
    exact fun z => hq (z ▸ ha)⟩
theorem turn1 (n : Nat) (L : List Int) (c r h pe ga k : Int) (T : List Q4) (hN : (T.map pos).Nodup) (hT : T.length < sizeLine) (x8 x9 x10 x11 x12 x13 x14 : Option PV) :
    ∃ L' T' y9 y10 y11, turnF (Cn (n + 1)) FU (.n 8) bT1 (.int k) [some (.lst (pl .int L)), some (.d (.int c)), some (.d (.int r)), some (.d (.int h)), some (.d (.int pe)), some (.d (.int ga)), some (.lst (pl d4 T)), some (.lst (pl d2 (T.map pos))), x8, x9, x10, x11, x12, x13, x14] =
      .nx [some (.lst (pl .int L')), some (.d (.int c)), some (.d (.int r)), some (.d (.int h)), some (.d (.int pe)), some (.d (.int ga)), some (.lst (pl d4 T')), some (.lst (pl d2 (T'.map pos))), some (.d (.int k)), y9, y10, y11, x12, x13, x14] ∧ T'.length ≤ T.length + 1 ∧ (T'.map pos).Nodup := by
  obtain ⟨x, L1, e1, _⟩ := c_take n L c
  obtain ⟨y, L2, e2, _⟩ := c_take n L1 r
  have eb := cmp_mem2 (x, y) (T.map pos)
  simp only [d2] at eb
  by_cases hm : (x, y) ∈ T.map pos
  · have hd : decide ((x, y) ∈ T.map pos) = true := decide_eq_true hm
    rw [hd] at eb
    exact ⟨L2, T, some (.d (.int x)), some (.d (.int y)), x11, by simp only [turnF, bT1]; simp [takeL, giveL, lendOf, e1, e2, setL, -List.map_map, eb], by omega, hN⟩
  · have hd : decide ((x, y) ∈ T.map pos) = false := decide_eq_false hm
    rw [hd] at eb
    obtain ⟨lo, L3, e3, _⟩ := c_take n L2 (h + 1)
    obtain ⟨q, L4, e4, _, hq⟩ := c_take n L3 4
    obtain ⟨hq0, hq1⟩ := hq (by omega)
    obtain ⟨z, ez⟩ := four 0 0 1 h q hq0 hq1
    have ep := meth_push d2 (T.map pos) (by simpa using hT) (x, y)
    have et := meth_push d4 T hT ⟨x, y, lo, min h (lo + z)⟩
    have em : T.map pos ++ [(x, y)] = (T ++ [(⟨x, y, lo, min h (lo + z)⟩ : Q4)]).map pos := by simp [pos]
    rw [em] at ep
    simp only [d2] at ep
    simp only [d4_eq] at et
    refine ⟨L4, T ++ [⟨x, y, lo, min h (lo + z)⟩], some (.d (.int x)), some (.d (.int y)), some (.d (.int lo)), ?_, by simp, by rw [← em]; exact nodup_snoc hN hm⟩
    generalize (T ++ [(⟨x, y, lo, min h (lo + z)⟩ : Q4)]).map pos = PP at ep ⊢
    simp only [turnF, bT1]
    simp [takeL, giveL, lendOf, e1, e2, setL, -List.map_map, eb, ep, e3, e4, ez, et]
def bT2 : List S := [
    .par [13, 14] [(.call 21 [.lend 0, .lend 3]), (.call 21 [.lend 0, (.bin .add (.get 2) (.lit (.int 1)))])],
    .ite (.cmp .notmem (.tup [(.get 13), (.get 14)]) (.vw 7)) [
      .expr (.meth .append 7 [(.tup [(.get 13), (.get 14)])]),
      .set 11 (.call 21 [.lend 0, .lend 1]),
      .expr (.meth .append 12 [(.tup [(.get 13), (.get 14), (.get 11), (.bi .min2 [(.bin .sub (.get 1) (.lit (.int 1))), (.bin .add (.get 11) (.idx (.tup [(.lit (.int 0)), (.lit (.int 1)), (.lit (.int 2)), (.get 1)]) (.call 21 [.lend 0, (.lit (.int 4))])))])])])] []]
theorem turn2 (n : Nat) (L : List Int) (c r h pe ga k : Int) (T : List Q4) (hT : T.length < sizeLine) (x6 x8 x9 x10 x11 x13 x14 : Option PV) :
    ∃ L' T' y11 y13 y14, turnF (Cn (n + 1)) FU (.n 8) bT2 (.int k) [some (.lst (pl .int L)), some (.d (.int c)), some (.d (.int r)), some (.d (.int h)), some (.d (.int pe)), some (.d (.int ga)), x6, some (.lst (pl d2 (T.map pos))), x8, x9, x10, x11, some (.lst (pl d4 T)), x13, x14] =
      .nx [some (.lst (pl .int L')), some (.d (.int c)), some (.d (.int r)), some (.d (.int h)), some (.d (.int pe)), some (.d (.int ga)), x6, some (.lst (pl d2 (T'.map pos))), some (.d (.int k)), x9, x10, y11, some (.lst (pl d4 T')), y13, y14] ∧ T'.length ≤ T.length + 1 := by
  obtain ⟨x, L1, e1, _⟩ := c_take n L h
  obtain ⟨y, L2, e2, _⟩ := c_take n L1 (r + 1)
  obtain ⟨b, eb⟩ := mem_d2 (x, y) (T.map pos)
  simp only [d2] at eb
  cases b with
  | false => exact ⟨L2, T, x11, some (.d (.int x)), some (.d (.int y)), by simp only [turnF, bT2]; simp [takeL, giveL, lendOf, e1, e2, setL, -List.map_map, eb], by omega⟩
  | true =>
    obtain ⟨lo, L3, e3, _⟩ := c_take n L2 c
    obtain ⟨q, L4, e4, _, hq⟩ := c_take n L3 4
    obtain ⟨hq0, hq1⟩ := hq (by omega)
    obtain ⟨z, ez⟩ := four 0 1 2 c q hq0 hq1
    have ep := meth_push d2 (T.map pos) (by simpa using hT) (x, y)
    have et := meth_push d4 T hT ⟨x, y, lo, min (c - 1) (lo + z)⟩
    have em : T.map pos ++ [(x, y)] = (T ++ [(⟨x, y, lo, min (c - 1) (lo + z)⟩ : Q4)]).map pos := by simp [pos]
    rw [em] at ep
    simp only [d2] at ep
    simp only [d4_eq] at et
    refine ⟨L4, T ++ [⟨x, y, lo, min (c - 1) (lo + z)⟩], some (.d (.int lo)), some (.d (.int x)), some (.d (.int y)), ?_, by simp⟩
    generalize (T ++ [(⟨x, y, lo, min (c - 1) (lo + z)⟩ : Q4)]).map pos = PP at ep ⊢
    simp only [turnF, bT2]
    simp [takeL, giveL, lendOf, e1, e2, setL, -List.map_map, eb, ep, e3, e4, ez, et]
theorem loop1 (n : Nat) (L : List Int) (c r h pe ga : Int) (m : Nat) (hm : m ≤ 1000) (x8 x9 x10 x11 x12 x13 x14 : Option PV) :
    ∃ L' T' y8 y9 y10 y11, seqR (turnF (Cn (n + 1)) FU (.n 8) bT1) 1 m 0 [some (.lst (pl .int L)), some (.d (.int c)), some (.d (.int r)), some (.d (.int h)), some (.d (.int pe)), some (.d (.int ga)), some (.lst []), some (.lst []), x8, x9, x10, x11, x12, x13, x14] =
      .nx [some (.lst (pl .int L')), some (.d (.int c)), some (.d (.int r)), some (.d (.int h)), some (.d (.int pe)), some (.d (.int ga)), some (.lst (pl d4 T')), some (.lst (pl d2 (T'.map pos))), y8, y9, y10, y11, x12, x13, x14] ∧ T'.length ≤ m ∧ (T'.map pos).Nodup := by
  obtain ⟨σ', e, L', T', y8, y9, y10, y11, hT, hN, rfl⟩ := seqN_inv (f := turnF (Cn (n + 1)) FU (.n 8) bT1)
    (fun k τ => ∃ L' T' y8 y9 y10 y11, T'.length ≤ k ∧ (T'.map pos).Nodup ∧ τ = [some (.lst (pl .int L')), some (.d (.int c)), some (.d (.int r)), some (.d (.int h)), some (.d (.int pe)), some (.d (.int ga)), some (.lst (pl d4 T')), some (.lst (pl d2 (T'.map pos))), y8, y9, y10, y11, x12, x13, x14]) m 0
    [some (.lst (pl .int L)), some (.d (.int c)), some (.d (.int r)), some (.d (.int h)), some (.d (.int pe)), some (.d (.int ga)), some (.lst []), some (.lst []), x8, x9, x10, x11, x12, x13, x14] ⟨L, [], x8, x9, x10, x11, Nat.le_refl _, by simp, rfl⟩ fun j τ _ hj ⟨L', T', y8, y9, y10, y11, hT, hN, hy⟩ => by
      subst hy
      obtain ⟨L2, T2, z9, z10, z11, e, h1, h2⟩ := turn1 n L' c r h pe ga j T' hN (lt_line (by omega)) y8 y9 y10 y11 x12 x13 x14
      exact ⟨_, .inl e, L2, T2, _, z9, z10, z11, by omega, h2, rfl⟩
  rw [show ((0 : Nat) : Int) = 0 from rfl] at e
  exact ⟨L', T', y8, y9, y10, y11, e, by omega, hN⟩
theorem loop2 (n : Nat) (L : List Int) (c r h pe ga : Int) (m : Nat) (hm : m ≤ 1000) (x6 x8 x9 x10 x11 x13 x14 : Option PV) :
    ∃ L' T' y7 y8 y11 y13 y14, seqR (turnF (Cn (n + 1)) FU (.n 8) bT2) 1 m 0 [some (.lst (pl .int L)), some (.d (.int c)), some (.d (.int r)), some (.d (.int h)), some (.d (.int pe)), some (.d (.int ga)), x6, some (.lst []), x8, x9, x10, x11, some (.lst []), x13, x14] =
      .nx [some (.lst (pl .int L')), some (.d (.int c)), some (.d (.int r)), some (.d (.int h)), some (.d (.int pe)), some (.d (.int ga)), x6, y7, y8, x9, x10, y11, some (.lst (pl d4 T')), y13, y14] ∧ T'.length ≤ m := by
  obtain ⟨σ', e, L', T', y8, y11, y13, y14, hT, rfl⟩ := seqN_inv (f := turnF (Cn (n + 1)) FU (.n 8) bT2)
    (fun k τ => ∃ L' T' y8 y11 y13 y14, T'.length ≤ k ∧ τ = [some (.lst (pl .int L')), some (.d (.int c)), some (.d (.int r)), some (.d (.int h)), some (.d (.int pe)), some (.d (.int ga)), x6, some (.lst (pl d2 (T'.map pos))), y8, x9, x10, y11, some (.lst (pl d4 T')), y13, y14]) m 0
    [some (.lst (pl .int L)), some (.d (.int c)), some (.d (.int r)), some (.d (.int h)), some (.d (.int pe)), some (.d (.int ga)), x6, some (.lst []), x8, x9, x10, x11, some (.lst []), x13, x14] ⟨L, [], x8, x11, x13, x14, Nat.le_refl _, rfl⟩ fun j τ _ hj ⟨L', T', y8, y11, y13, y14, hT, hy⟩ => by
      subst hy
      obtain ⟨L2, T2, z11, z13, z14, e, h1⟩ := turn2 n L' c r h pe ga j T' (lt_line (by omega)) x6 y8 x9 x10 y11 y13 y14
      exact ⟨_, .inl e, L2, T2, _, z11, z13, z14, by omega, rfl⟩
  rw [show ((0 : Nat) : Int) = 0 from rfl] at e
  exact ⟨L', T', _, y8, y11, y13, y14, e, by omega⟩
theorem k_plan (n : Nat) (L : List Int) (c r h : Int) (pe ga : Nat) (hp : pe ≤ 200) (hg : ga ≤ 200) : ∃ L' P, Cn (n + 2) 24 [.lst (pl .int L), .d (.int c), .d (.int r), .d (.int h), .d (.int pe), .d (.int ga)] = .ok (.d (dP P)) [.lst (pl .int L'), .d (.int c), .d (.int r), .d (.int h), .d (.int pe), .d (.int ga)] ∧ P.ps.length ≤ pe ∧ P.gs.length ≤ 200 ∧ (P.ps.map pos).Nodup := by
  obtain ⟨L1, T1, y8, y9, y10, y11, e1, h1, h1n⟩ := loop1 n L c r h pe ga pe (by omega) none none none none none none none
  obtain ⟨T1', s1, l1, p1⟩ := bi_sorted_q T1
  have hr1 := its_rangeN (n := pe) (by omega)
  have hb : f__law_plan = ⟨6, 15, [], [.set 6 (.lst []), .set 7 (.lst []), .for_ .range [(.get 4)] (.n 8) bT1, .set 12 (.lst []), .set 7 (.lst []),
    .for_ .range [(.ite (.cmp .gt (.get 3) (.lit (.int 0))) (.get 5) (.lit (.int 0)))] (.n 8) bT2,
    .ret (.tup [(.get 1), (.get 2), (.get 3), (.bi .tuple [(.bi .sorted [(.vw 6)])]), (.bi .tuple [(.bi .sorted [(.vw 12)])])])]⟩ := rfl
  have hap : (T1'.map pos).Nodup := p1.nodup_iff.mpr h1n
  by_cases hh : 0 < h
  · obtain ⟨L2, T2, z7, z8, z11, z13, z14, e2, h2⟩ := loop2 n L1 c r h pe ga ga (by omega) (some (.lst (pl d4 T1))) y8 y9 y10 y11 none none
    obtain ⟨T2', s2, l2, _⟩ := bi_sorted_q T2
    have hr2 := its_rangeN (n := ga) (by omega)
    refine ⟨L2, ⟨c, r, h, T1', T2'⟩, ?_, by show T1'.length ≤ pe; omega, by show T2'.length ≤ 200; omega, hap⟩
    show runFn (Cn (n + 1)) FU f__law_plan _ = _
    rw [hb]
    simp only [runFn, dP_eq]
    simp [endC, retC, outA_eq, hr1, -List.map_map, e1, hh, hr2, e2, s1, s2]
  · obtain ⟨L2, T2, z7, z8, z11, z13, z14, e2, h2⟩ := loop2 n L1 c r h pe ga 0 (by omega) (some (.lst (pl d4 T1))) y8 y9 y10 y11 none none
    obtain ⟨T2', s2, l2, _⟩ := bi_sorted_q T2
    have hr2 : itsOf .range [.int 0] = some (.r 0 1 0) := rfl
    refine ⟨L2, ⟨c, r, h, T1', T2'⟩, ?_, by show T1'.length ≤ pe; omega, by show T2'.length ≤ 200; omega, hap⟩
    show runFn (Cn (n + 1)) FU f__law_plan _ = _
    rw [hb]
    simp only [runFn, dP_eq]
    simp [endC, retC, outA_eq, hr1, -List.map_map, e1, hh, hr2, e2, s1, s2]

end Law

/-! K14b: the nearest first: plain. -/
namespace Law
open PySem L2 R
open PyProof.Rows hiding St
/-- the first of the least that are left -/
def pk (f : Nat → Option Int) (S : List Nat) : Nat → Option (Int × Nat)
  | 0 => none
  | k + 1 => match f k with
    | none => pk f S k
    | some x => if k ∈ S then pk f S k else match pk f S k with
      | none => some (x, k)
      | some (y, b) => if x < y then some (x, k) else some (y, b)
theorem pk_some {f : Nat → Option Int} {S : List Nat} : ∀ {k : Nat} {x : Int} {u : Nat}, pk f S k = some (x, u) → u < k ∧ u ∉ S ∧ f u = some x ∧ ∀ j, j < k → j ∉ S → ∀ y, f j = some y → x ≤ y
  | 0, x, u, h => by cases h
  | k + 1, x, u, h => by
    rw [pk] at h
    cases ef : f k with
    | none =>
      rw [ef] at h
      obtain ⟨h1, h2, h3, h4⟩ := pk_some (k := k) h
      refine ⟨by omega, h2, h3, fun j hj hjs y hy => ?_⟩
      rcases Nat.lt_succ_iff_lt_or_eq.mp hj with q | q
      · exact h4 j q hjs y hy
      · subst q
        rw [ef] at hy
        cases hy
    | some z =>
      rw [ef] at h
      simp only at h
      by_cases hk : k ∈ S
      · rw [if_pos hk] at h
        obtain ⟨h1, h2, h3, h4⟩ := pk_some (k := k) h
        refine ⟨by omega, h2, h3, fun j hj hjs y hy => ?_⟩
        rcases Nat.lt_succ_iff_lt_or_eq.mp hj with q | q
        · exact h4 j q hjs y hy
        · subst q
          exact absurd hk hjs
      · rw [if_neg hk] at h
        cases e : pk f S k with
        | none =>
          rw [e] at h
          cases h
          refine ⟨by omega, hk, ef, fun j hj hjs y hy => ?_⟩
          rcases Nat.lt_succ_iff_lt_or_eq.mp hj with q | q
          · exact absurd e (pk_none hjs q hy)
          · subst q
            rw [ef] at hy
            cases hy
            exact Int.le_refl _
        | some p =>
          obtain ⟨y0, b⟩ := p
          rw [e] at h
          simp only at h
          obtain ⟨h1, h2, h3, h4⟩ := pk_some e
          split at h
          · rename_i hlt
            cases h
            refine ⟨by omega, hk, ef, fun j hj hjs y hy => ?_⟩
            rcases Nat.lt_succ_iff_lt_or_eq.mp hj with q | q
            · have := h4 j q hjs y hy
              omega
            · subst q
              rw [ef] at hy
              cases hy
              exact Int.le_refl _
          · rename_i hlt
            cases h
            refine ⟨by omega, h2, h3, fun j hj hjs y hy => ?_⟩
            rcases Nat.lt_succ_iff_lt_or_eq.mp hj with q | q
            · exact h4 j q hjs y hy
            · subst q
              rw [ef] at hy
              cases hy
              omega
where
  pk_none {f : Nat → Option Int} {S : List Nat} : ∀ {k : Nat} {j : Nat} {y : Int}, j ∉ S → j < k → f j = some y → pk f S k ≠ none
    | 0, j, y, _, hj, _ => by omega
    | k + 1, j, y, hs, hj, hy => by
      rw [pk]
      cases ef : f k with
      | none =>
        rcases Nat.lt_succ_iff_lt_or_eq.mp hj with q | q
        · exact pk_none hs q hy
        · subst q
          rw [ef] at hy
          cases hy
      | some z =>
        simp only
        by_cases hk : k ∈ S
        · rw [if_pos hk]
          rcases Nat.lt_succ_iff_lt_or_eq.mp hj with q | q
          · exact pk_none hs q hy
          · subst q
            exact absurd hk hs
        · rw [if_neg hk]
          cases pk f S k with
          | none => simp
          | some p =>
            obtain ⟨a, b⟩ := p
            simp only
            split <;> simp
/-! ### the pairs that are left, the least of them -/
def cand (f : Nat → Option Int) (S : List Nat) (j : Nat) : Option (Int × Int) := match f j with
  | none => none
  | some x => if j ∈ S then none else some (x, (j : Int))
def cands (f : Nat → Option Int) (S : List Nat) (k : Nat) : List (Int × Int) := (List.range k).filterMap (cand f S)
def ltB (a b : Int × Int) : Bool := PySem.W.dataLt (d2 a).py (d2 b).py
def mnL : List (Int × Int) → Option (Int × Int)
  | [] => none
  | q :: L => some (L.foldl (fun a y => if ltB y a then y else a) q)
theorem mnL_snoc (L : List (Int × Int)) (z : Int × Int) : mnL (L ++ [z]) = match mnL L with
    | none => some z
    | some a => some (if ltB z a then z else a) := by
  cases L with
  | nil => rfl
  | cons q L => simp [mnL, List.foldl_append]
theorem cands_snoc (f : Nat → Option Int) (S : List Nat) (k : Nat) : cands f S (k + 1) = cands f S k ++ (match cand f S k with
    | none => []
    | some z => [z]) := by
  unfold cands
  rw [List.range_succ, List.filterMap_append]
  congr 1
  cases h : cand f S k <;> simp [h]
theorem mn_pk (f : Nat → Option Int) (S : List Nat) : ∀ k, mnL (cands f S k) = (pk f S k).map fun q => (q.1, (q.2 : Int))
  | 0 => by simp [cands, mnL, pk]
  | k + 1 => by
    have ih := mn_pk f S k
    rw [cands_snoc, pk]
    unfold cand
    cases ef : f k with
    | none => simpa using ih
    | some x =>
      simp only
      by_cases hk : k ∈ S
      · rw [if_pos hk, if_pos hk]
        simpa using ih
      · rw [if_neg hk, if_neg hk]
        simp only
        rw [mnL_snoc, ih]
        cases e : pk f S k with
        | none => simp
        | some p =>
          obtain ⟨y, b⟩ := p
          have hb := (pk_some e).1
          simp only [Option.map_some]
          have hlt : ltB (x, (k : Int)) (y, (b : Int)) = decide (x < y) := by
            unfold ltB
            rw [Bool.eq_iff_iff, lt_d2, decide_eq_true_eq]
            unfold lt2
            simp
            omega
          rw [hlt]
          by_cases hxy : x < y
          · simp [hxy]
          · simp [hxy]
/-! ### one lap -/
def relF (w : Nat → Nat → Int) (F : Nat → Int) (u : Nat) : Nat → Int := fun j => if F u + w u j < F j then F u + w u j else F j
def relG (w : Nat → Nat → Int) (F : Nat → Int) (g : Nat → Option Nat) (u : Nat) : Nat → Option Nat := fun j => if F u + w u j < F j then some u else g j
structure DI (m p : Nat) (w : Nat → Nat → Int) (F : Nat → Int) (g : Nat → Option Nat) (S : List Nat) : Prop where
  nd : S.Nodup
  lt : ∀ s ∈ S, s < m
  mono : ∀ s ∈ S, ∀ u, u < m → u ∉ S → F s ≤ F u
  pS : p ∈ S
  Fp : F p = 0
  gp : g p = none
  F0 : ∀ u, u < m → 0 ≤ F u
  came : ∀ q, q < m → q ≠ p → ∃ r, g q = some r ∧ r ∈ S ∧ r ≠ q ∧ F q = F r + w r q ∧ (q ∈ S → ∃ S1 S2, S = S1 ++ q :: S2 ∧ r ∈ S1)
theorem di_one {m p : Nat} {w : Nat → Nat → Int} (hp : p < m) (hw : ∀ i j, i < m → j < m → 0 ≤ w i j) (w0 : w p p = 0) : DI m p w (w p) (fun j => if j = p then none else some p) [p] where
  nd := by simp
  lt := fun s hs => by simp at hs; omega
  mono := fun s hs u hu _ => by
    simp at hs
    rw [hs, w0]
    exact hw p u hp hu
  pS := by simp
  Fp := w0
  gp := by simp
  F0 := fun u hu => hw p u hp hu
  came := fun q hq hqp => ⟨p, by simp [hqp], by simp, fun e => hqp e.symm, by rw [w0]; omega, fun h => absurd (by simpa using h) hqp⟩
theorem di_step {m p : Nat} {w : Nat → Nat → Int} {F : Nat → Int} {g : Nat → Option Nat} {S : List Nat} (hw : ∀ i j, i < m → j < m → 0 ≤ w i j) (h : DI m p w F g S) {x : Int} {u : Nat} (hu : pk (fun j => some (F j)) S m = some (x, u)) : DI m p w (relF w F u) (relG w F g u) (S ++ [u]) := by
  obtain ⟨u1, u2, u3, u4⟩ := pk_some hu
  have hx : x = F u := by simpa using u3.symm
  subst hx
  have old : ∀ s ∈ S ++ [u], relF w F u s = F s := fun s hs => by
    unfold relF
    rcases List.mem_append.mp hs with q | q
    · have h1 := h.mono s q u u1 u2
      have h2 := hw u s u1 (h.lt s q)
      rw [if_neg (by omega)]
    · simp at q
      have h2 := hw u u u1 u1
      rw [q, if_neg (by omega)]
  have oldG : ∀ s ∈ S ++ [u], relG w F g u s = g s := fun s hs => by
    unfold relG
    rcases List.mem_append.mp hs with q | q
    · have h1 := h.mono s q u u1 u2
      have h2 := hw u s u1 (h.lt s q)
      rw [if_neg (by omega)]
    · simp at q
      have h2 := hw u u u1 u1
      rw [q, if_neg (by omega)]
  have pS' : p ∈ S ++ [u] := List.mem_append_left _ h.pS
  refine ⟨?_, fun s hs => ?_, fun s hs v hv hvs => ?_, pS', by rw [old p pS', h.Fp], by rw [oldG p pS', h.gp], fun v hv => ?_, fun q hq hqp => ?_⟩
  · unfold List.Nodup
    rw [List.pairwise_append]
    exact ⟨h.nd, by simp, fun a ha b hb => by
      simp at hb
      subst hb
      exact fun z => u2 (z ▸ ha)⟩
  · rcases List.mem_append.mp hs with q | q
    · exact h.lt s q
    · simp at q
      omega
  · rw [old s hs]
    have hvS : v ∉ S := fun z => hvs (List.mem_append_left _ z)
    have h2 := hw u v u1 hv
    have h3 := u4 v hv hvS (F v) rfl
    have h4 : F s ≤ F u := by
      rcases List.mem_append.mp hs with q | q
      · exact h.mono s q u u1 u2
      · simp at q
        rw [q]
        exact Int.le_refl _
    unfold relF
    split <;> omega
  · have h1 := h.F0 u u1
    have h2 := hw u v u1 hv
    have h3 := h.F0 v hv
    unfold relF
    split <;> omega
  · by_cases hc : F u + w u q < F q
    · have hqS : q ∉ S ++ [u] := fun z => by
        have := old q z
        unfold relF at this
        rw [if_pos hc] at this
        omega
      refine ⟨u, by unfold relG; rw [if_pos hc], by simp, fun e => hqS (by simp [e]), ?_, fun z => absurd z hqS⟩
      rw [old u (by simp)]
      unfold relF
      rw [if_pos hc]
    · obtain ⟨r, e1, r1, r2, r3, r4⟩ := h.came q hq hqp
      refine ⟨r, by unfold relG; rw [if_neg hc, e1], List.mem_append_left _ r1, r2, ?_, fun z => ?_⟩
      · rw [old r (List.mem_append_left _ r1)]
        unfold relF
        rw [if_neg hc, r3]
      · rcases List.mem_append.mp z with y | y
        · obtain ⟨S1, S2, e2, e3⟩ := r4 y
          exact ⟨S1, S2 ++ [u], by rw [e2]; simp, e3⟩
        · simp at y
          exact ⟨S, [], by rw [y], r1⟩
/-! ### the way back -/
inductive Way (p : Nat) (g : Nat → Option Nat) : List Nat → Prop
  | one (h : g p = none) : Way p g [p]
  | more (q r : Nat) (L : List Nat) (h : g q = some r) (hw : Way p g (r :: L)) : Way p g (q :: r :: L)
def sumW (w : Nat → Nat → Int) : List Nat → Int
  | a :: b :: L => w b a + sumW w (b :: L)
  | _ => 0
theorem way_ex {m p : Nat} {w : Nat → Nat → Int} {F : Nat → Int} {g : Nat → Option Nat} {S : List Nat} (h : DI m p w F g S) : ∀ (n : Nat) (q : Nat) (S1 S2 : List Nat), S1.length = n → S = S1 ++ q :: S2 → ∃ L, Way p g (q :: L) ∧ (q :: L).Nodup ∧ (∀ r ∈ L, r ∈ S1) ∧ sumW w (q :: L) = F q := by
  intro n
  induction n using Nat.strongRecOn with
  | ind n ih =>
    intro q S1 S2 hn hS
    by_cases hqp : q = p
    · subst hqp
      exact ⟨[], .one h.gp, by simp, fun r hr => by simp at hr, by simp [sumW, h.Fp]⟩
    · have hqm : q < m := h.lt q (by rw [hS]; simp)
      obtain ⟨r, e1, r1, r2, r3, r4⟩ := h.came q hqm hqp
      obtain ⟨T1, T2, eT, hr⟩ := r4 (by rw [hS]; simp)
      have nd := h.nd
      -- the place of q is one
      have hT : T1 = S1 := by
        have e : S1 ++ q :: S2 = T1 ++ q :: T2 := by rw [← hS, eT]
        have ns : q ∉ S1 := by
          rw [hS] at nd
          have := (List.nodup_append.mp nd).2.2
          exact fun z => this q z q (by simp) rfl
        have nt : q ∉ T1 := by
          rw [eT] at nd
          have := (List.nodup_append.mp nd).2.2
          exact fun z => this q z q (by simp) rfl
        have h1 : S1.length = T1.length := by
          rcases Nat.lt_trichotomy S1.length T1.length with z | z | z
          · have := congrArg (·[S1.length]?) e
            simp only [List.getElem?_append_right (Nat.le_refl _), Nat.sub_self, List.getElem?_cons_zero] at this
            rw [List.getElem?_append_left z] at this
            exact absurd (List.mem_of_getElem? this.symm) nt
          · exact z
          · have := congrArg (·[T1.length]?) e
            simp only [List.getElem?_append_right (Nat.le_refl T1.length), Nat.sub_self, List.getElem?_cons_zero] at this
            rw [List.getElem?_append_left z] at this
            exact absurd (List.mem_of_getElem? this) ns
        exact (List.append_inj e h1).1.symm
      subst hT
      obtain ⟨U1, U2, eU⟩ := List.append_of_mem hr
      obtain ⟨L, w1, w2, w3, w4⟩ := ih U1.length (by rw [← hn, eU]; simp) r U1 (U2 ++ q :: S2) rfl (by rw [hS, eU]; simp)
      refine ⟨r :: L, .more q r L e1 w1, ?_, fun s hs => ?_, ?_⟩
      · rw [List.nodup_cons]
        refine ⟨fun z => ?_, w2⟩
        have hq1 : q ∈ T1 := by
          rcases List.mem_cons.mp z with y | y
          · exact absurd y.symm r2
          · rw [eU]
            exact List.mem_append_left _ (w3 q y)
        rw [hS] at nd
        exact (List.nodup_append.mp nd).2.2 q hq1 q (by simp) rfl
      · rcases List.mem_cons.mp hs with y | y
        · rw [y]; exact hr
        · rw [eU]
          exact List.mem_append_left _ (w3 s y)
      · rw [sumW, w4, r3]
        omega
end Law

/-! K14c: rooms between pegs; what is left; rooms from one peg. -/
namespace Law
open PySem L2 R
open PyProof.Rows hiding St
def oD : Option Int → Dat
  | none => .non
  | some x => .int x
def oN : Option Nat → Dat
  | none => .non
  | some k => .int (k : Int)
def LO (m : Nat) (f : Nat → Option Int) : PV := .lst (pl (fun j => oD (f j)) (List.range m))
def LN (m : Nat) (g : Nat → Option Nat) : PV := .lst (pl (fun j => oN (g j)) (List.range m))
def up {α : Type} (f : Nat → α) (k : Nat) (v : α) : Nat → α := fun j => if j = k then v else f j
theorem ix_rg (F : Nat → Dat) (m k : Nat) (hk : k < m) : idxP (.lst (pl F (List.range m))) (.int (k : Int)) = some (F k) := by
  have := idx_pl F (List.range m) k (by simpa using hk)
  simpa using this
theorem set_rg (F : Nat → Dat) (m k : Nat) (hk : k < m) (v : Dat) : setIxP (.lst (pl F (List.range m))) (.int (k : Int)) (.d v) = some (.lst (pl (up F k v) (List.range m))) := by
  have e : L2.ixN (pl F (List.range m)).length (k : Int) = some k := by
    rw [pl_len, List.length_range]
    unfold L2.ixN
    simp
    omega
  have e2 : (pl F (List.range m)).set k (.d v) = pl (up F k v) (List.range m) := by
    unfold pl
    refine List.ext_getElem (by simp) fun i h1 h2 => ?_
    rw [List.getElem_set]
    by_cases h : k = i
    · simp [h, up]
    · have : ¬ i = k := fun z => h z.symm
      simp [h, up, this]
  have hl : k < (pl F (List.range m)).length := by rw [pl_len, List.length_range]; exact hk
  simp only [setIxP, e, Option.bind_some]
  rw [if_pos hl, e2]
theorem ixLO (m : Nat) (f : Nat → Option Int) (k : Nat) (hk : k < m) : idxP (LO m f) (.int (k : Int)) = some (oD (f k)) := ix_rg (fun j => oD (f j)) m k hk
theorem stLO (m : Nat) (f : Nat → Option Int) (k : Nat) (hk : k < m) (x : Int) : setIxP (LO m f) (.int (k : Int)) (.d (.int x)) = some (LO m (up f k (some x))) := by
  have e := set_rg (fun j => oD (f j)) m k hk (.int x)
  have e2 : up (fun j => oD (f j)) k (.int x) = fun j => oD (up f k (some x) j) := by
    funext j
    unfold up
    split <;> rfl
  rw [e2] at e
  exact e
theorem stLN (m : Nat) (g : Nat → Option Nat) (k : Nat) (hk : k < m) (u : Nat) : setIxP (LN m g) (.int (k : Int)) (.d (.int (u : Int))) = some (LN m (up g k (some u))) := by
  have e := set_rg (fun j => oN (g j)) m k hk (.int (u : Int))
  have e2 : up (fun j => oN (g j)) k (.int (u : Int)) = fun j => oN (up g k (some u) j) := by
    funext j
    unfold up
    split <;> rfl
  rw [e2] at e
  exact e
theorem enum_rg (F : Nat → Dat) (m : Nat) : enumD 0 ((List.range m).map F) = (List.range m).map fun (j : Nat) => .tup [.int (j : Int), F j] := by
  apply List.ext_getElem?
  intro i
  rw [enumD_at, List.getElem?_map, List.getElem?_map]
  cases h : (List.range m)[i]? with
  | none => rfl
  | some k =>
    have hk := (List.getElem?_eq_some_iff.mp h)
    obtain ⟨h1, h2⟩ := hk
    have : k = i := by simpa using h2.symm
    subst this
    simp
/-! ### the nearest that is left -/
def DN (S : List Nat) : PV := .dic false (S.map fun (s : Nat) => .int (s : Int)) (S.map fun _ => .bl true)
theorem din_S (no : Bool) (S : List Nat) (j : Nat) : dinP no (.int (j : Int)) (DN S) = some (.d (.bl (decide (j ∈ S) != no))) := by
  have e : decide (Dat.int (j : Int) ∈ S.map fun (s : Nat) => Dat.int (s : Int)) = decide (j ∈ S) := by
    rw [decide_eq_decide, List.mem_map]
    constructor
    · rintro ⟨s, hs, e⟩
      have : s = j := by simp at e; omega
      exact this ▸ hs
    · exact fun h => ⟨j, h, rfl⟩
  have hk : keyOk false (.int (j : Int)) = true := rfl
  unfold dinP DN dicP
  simp only [Option.bind_some]
  rw [if_pos hk, e]
theorem dput_S (S : List Nat) (u : Nat) (hu : u ∉ S) (hl : S.length < 1000) : dputP (.int (u : Int)) (.bl true) (DN S) = some (DN (S ++ [u])) := by
  have hm : ¬ (Dat.int (u : Int) ∈ S.map fun (s : Nat) => Dat.int (s : Int)) := fun h => by
    obtain ⟨s, hs, e⟩ := List.mem_map.mp h
    have : s = u := by simp at e; omega
    exact hu (this ▸ hs)
  have hz : S.length < sizeLine := lt_line (by omega)
  have hc : (keyOk false (.int (u : Int)) && decide ((S.map fun (s : Nat) => Dat.int (s : Int)).length < sizeLine)) = true := by simp [keyOk, hz]
  unfold DN dputP
  simp only
  rw [if_pos hc, if_neg hm]
  simp
theorem min_2 (L : List (Int × Int)) (q : Int × Int) (h : mnL L = some q) : biD .min [.lst (L.map d2)] = some (.d (d2 q)) := by
  cases L with
  | nil => cases h
  | cons z L =>
    have hs : sortable ((z :: L).map d2) = true := sortable_2 (z :: L)
    have ht : ((z :: L).map d2).all isTupC = true := by
      rw [List.all_eq_true]
      intro x hx
      obtain ⟨y, _, rfl⟩ := List.mem_map.mp hx
      rfl
    have hf : ∀ (L : List (Int × Int)) (a : Int × Int), (L.map d2).foldl (fun a y => if PySem.W.dataLt y.py a.py then y else a) (d2 a) = d2 (L.foldl (fun a y => if ltB y a then y else a) a) := by
      intro L
      induction L with
      | nil => intro a; rfl
      | cons y L ih =>
        intro a
        rw [List.map_cons, List.foldl_cons, List.foldl_cons, ← ih]
        congr 1
        unfold ltB
        split <;> rfl
    have hi : (intsD ((z :: L).map d2)).bind minL = none := rfl
    show minP ((z :: L).map d2) = _
    unfold minP
    rw [hi]
    simp only
    rw [List.map_cons] at hs ht ⊢
    unfold minT
    simp only [hs, ht, Bool.and_self, if_true, Option.map_some]
    rw [hf]
    have : L.foldl (fun a y => if ltB y a then y else a) z = q := by simpa [mnL] using h
    rw [this]
theorem k_near (n m : Nat) (hm : m ≤ 1000) (f : Nat → Option Int) (S : List Nat) : Cn (n + 1) 15 [LO m f, DN S] = .ok (.d (oN ((pk f S m).map (·.2)))) [LO m f, DN S] := by
  show runFn (Cn n) FU f_nearest_left _ = _
  have hv : vwP (LO m f) = some (.lst ((List.range m).map fun j => oD (f j))) := pl_vw (fun j => oD (f j)) (List.range m)
  have hi : itsOf .enum [.lst ((List.range m).map fun j => oD (f j))] = some (.l ((List.range m).map fun (j : Nat) => .tup [.int (j : Int), oD (f j)])) := by
    show some (Its.l (enumD 0 ((List.range m).map fun j => oD (f j)))) = _
    rw [enum_rg]
  obtain ⟨σ', e, z3, z4, rfl⟩ := compL_fmap (f := turnC (Cn n) (.t [(.n 3), (.n 4)]) [(.and (.cmp .isnot (.get 4) (.lit .non)) (.din true (.get 3) 1))] [3, 4] (.tup [(.get 4), (.get 3)]))
    (P := fun τ => ∃ z3 z4, τ = [none, some (DN S), none, z3, z4]) (fun (j : Nat) => Dat.tup [.int (j : Int), oD (f j)]) (fun j => (cand f S j).map fun z => PV.d (d2 z)) (List.range m) [] [none, some (DN S), none, none, none] ⟨none, none, rfl⟩ (fun j hj τ ⟨z3, z4, hz⟩ => by
      subst hz
      have hd := din_S true S j
      refine ⟨[none, some (DN S), none, some (.d (.int (j : Int))), some (.d (oD (f j)))], ?_, _, _, rfl⟩
      generalize DN S = D at hd
      unfold cand
      cases ef : f j with
      | none => simp [turnC, wipeS, noX, oD]
      | some x =>
        by_cases hs : j ∈ S
        · simp [turnC, wipeS, noX, oD, hd, hs]
        · simp [turnC, wipeS, noX, oD, hd, hs, mkTup, d2]) (le_line (by simp; omega))
  have em : (List.range m).filterMap (fun j => (cand f S j).map fun z => PV.d (d2 z)) = pl d2 (cands f S m) := by
    unfold cands pl
    rw [List.map_filterMap]
  rw [List.nil_append, em] at e
  have hp := mn_pk f S m
  have hc : cands f S m = [] ↔ pk f S m = none := by
    cases hcd : cands f S m with
    | nil =>
      rw [hcd] at hp
      cases hk : pk f S m with
      | none => simp
      | some q => rw [hk] at hp; cases hp
    | cons q L =>
      rw [hcd] at hp
      cases hk : pk f S m with
      | none => rw [hk] at hp; cases hp
      | some q => simp
  simp only [runFn, f_nearest_left, b_nearest_left]
  generalize hLO : LO m f = X at *
  generalize hDN : DN S = D at *
  cases hk : pk f S m with
  | none =>
    have h0 := hc.mpr hk
    rw [h0] at e
    simp [endC, retC, outA_eq, hv, hi, wipeS, e, backS, oN]
  | some q =>
    have h0 : cands f S m ≠ [] := fun z => by
      have := hc.mp z
      rw [hk] at this
      cases this
    have hmn := min_2 (cands f S m) (q.1, (q.2 : Int)) (by rw [hp, hk]; rfl)
    have hlen : 0 < (cands f S m).length := List.length_pos_iff.mpr h0
    have hlen2 : (0 : Int) < ((cands f S m).length : Int) := by omega
    generalize cands f S m = L at e hmn hlen hlen2
    simp [endC, retC, outA_eq, hv, hi, wipeS, e, backS, oN, hlen, hlen2, hmn, d2, at1]
/-! ### rows of rooms -/
def pg (ps : List Q4) (i : Nat) : Q4 := ps.getD i ⟨0, 0, 0, 0⟩
def wR (ps : List Q4) (i j : Nat) : Int := if i = j then 0 else roomI (pg ps i) (pg ps j)
theorem ps_rg (ps : List Q4) : ps.map d4 = (List.range ps.length).map fun i => d4 (pg ps i) := by
  refine List.ext_getElem (by simp) fun i h1 h2 => ?_
  have hi : i < ps.length := by simpa using h1
  simp [pg, hi]
theorem at_ps (ps : List Q4) (i : Nat) (hi : i < ps.length) : idxD (.tup (ps.map d4)) (.int (i : Int)) = some (d4 (pg ps i)) := by
  rw [idxD_tup, at_map d4 ps i hi]
  simp [pg, hi]
theorem pos_ne {ps : List Q4} (h : (ps.map pos).Nodup) {i j : Nat} (hi : i < ps.length) (hj : j < ps.length) (hij : i ≠ j) : pos (pg ps i) ≠ pos (pg ps j) := fun e => by
  have e1 : pg ps i = ps[i] := by simp [pg, hi]
  have e2 : pg ps j = ps[j] := by simp [pg, hj]
  rw [e1, e2] at e
  have h2 : (ps.map pos)[i]'(by simpa using hi) = (ps.map pos)[j]'(by simpa using hj) := by simpa using e
  have pw := List.pairwise_iff_getElem.mp h
  rcases Nat.lt_or_gt_of_ne hij with q | q
  · exact absurd h2 (pw i j (by simpa using hi) (by simpa using hj) q)
  · exact absurd h2.symm (pw j i (by simpa using hj) (by simpa using hi) q)
theorem eq4_ps {ps : List Q4} (h : (ps.map pos).Nodup) {i j : Nat} (hi : i < ps.length) (hj : j < ps.length) : eq4 (pg ps i) (pg ps j) = decide (i = j) := by
  by_cases hij : i = j
  · subst hij
    simp [eq4]
  · have hne := pos_ne h hi hj hij
    rw [decide_eq_false hij]
    cases e : eq4 (pg ps i) (pg ps j) with
    | false => rfl
    | true =>
      rw [(eq4_iff _ _).mp e] at hne
      exact absurd rfl hne
theorem room_pos {p q : Q4} (h : pos p ≠ pos q) : 0 ≤ roomI p q := by
  unfold roomI
  have h2 : ¬ (p.a = q.a ∧ p.b = q.b) := fun ⟨a, b⟩ => h (by simp [pos, a, b])
  unfold ab
  split
  · omega
  · split
    · split <;> omega
    · omega
theorem wR_pos {ps : List Q4} (h : (ps.map pos).Nodup) {i j : Nat} (hi : i < ps.length) (hj : j < ps.length) : 0 ≤ wR ps i j := by
  unfold wR
  split
  · exact Int.le_refl _
  · rename_i hij
    exact room_pos (pos_ne h hi hj hij)
def rowD (ps : List Q4) (i : Nat) : Dat := .lst ((List.range ps.length).map fun j => .int (wR ps i j))
def ROWS (ps : List Q4) : PV := .lst ((List.range ps.length).map fun i => PV.lst (pl (fun j => .int (wR ps i j)) (List.range ps.length)))
theorem k_rows (n : Nat) (c r h : Int) (ps gs : List Q4) (hN : (ps.map pos).Nodup) (hl : ps.length ≤ 1000) : Cn (n + 2) 2 [.d (plan c r h ps gs)] = .ok (ROWS ps) [.d (plan c r h ps gs)] := by
  show runFn (Cn (n + 1)) FU f_room_rows _ = _
  have p3 : idxD (plan c r h ps gs) (.int 3) = some (.tup (ps.map d4)) := by
    rw [plan_eq]
    exact idP3 _
  have inner : ∀ i, i < ps.length → ∃ z3, compL (turnC (Cn (n + 1)) (.n 3) [] [3] (.ite (.cmp .eq (.get 2) (.vw 3)) (.lit (.int 0)) (.call 1 [.lend 2, .lend 3]))) (ps.map d4) [] [some (.d (plan c r h ps gs)), some (.d (.tup (ps.map d4))), some (.d (d4 (pg ps i))), none] =
      .ok (pl (fun j => Dat.int (wR ps i j)) (List.range ps.length)) [some (.d (plan c r h ps gs)), some (.d (.tup (ps.map d4))), some (.d (d4 (pg ps i))), z3] := fun i hi => by
    obtain ⟨σ', e, z3, rfl⟩ := compL_map (f := turnC (Cn (n + 1)) (.n 3) [] [3] (.ite (.cmp .eq (.get 2) (.vw 3)) (.lit (.int 0)) (.call 1 [.lend 2, .lend 3]))) (P := fun τ => ∃ z3, τ = [some (.d (plan c r h ps gs)), some (.d (.tup (ps.map d4))), some (.d (d4 (pg ps i))), z3])
      (fun j => d4 (pg ps j)) (fun j => .d (.int (wR ps i j))) (List.range ps.length) [some (.d (plan c r h ps gs)), some (.d (.tup (ps.map d4))), some (.d (d4 (pg ps i))), none] ⟨none, rfl⟩ (fun j hj τ ⟨z3, hz⟩ => by
        subst hz
        have hj' : j < ps.length := by simpa using hj
        have e1 := cmp_eq4 (pg ps i) (pg ps j)
        rw [eq4_ps hN hi hj'] at e1
        have e2 := k_room n (pg ps i) (pg ps j)
        refine ⟨[some (.d (plan c r h ps gs)), some (.d (.tup (ps.map d4))), some (.d (d4 (pg ps i))), some (.d (d4 (pg ps j)))], ?_, _, rfl⟩
        unfold wR
        generalize d4 (pg ps i) = X at *
        generalize d4 (pg ps j) = Y at *
        by_cases hij : i = j
        · simp [turnC, wipeS, noX, e1, hij]
        · simp [turnC, wipeS, noX, e1, hij, takeL, giveL, lendOf, e2]) (le_line (by simpa using hl))
    rw [← ps_rg] at e
    exact ⟨z3, e⟩
  obtain ⟨σ', e, z2, rfl⟩ := compL_map (f := turnC (Cn (n + 1)) (.n 2) [] [2] (.comp .seq [(.get 1)] (.n 3) [] [3] (.ite (.cmp .eq (.get 2) (.vw 3)) (.lit (.int 0)) (.call 1 [.lend 2, .lend 3])))) (P := fun τ => ∃ z2, τ = [some (.d (plan c r h ps gs)), some (.d (.tup (ps.map d4))), z2, none])
    (fun i => d4 (pg ps i)) (fun i => PV.lst (pl (fun j => .int (wR ps i j)) (List.range ps.length))) (List.range ps.length) [some (.d (plan c r h ps gs)), some (.d (.tup (ps.map d4))), none, none] ⟨none, rfl⟩ (fun i hi τ ⟨z2, hz⟩ => by
      subst hz
      obtain ⟨z3, e⟩ := inner i (by simpa using hi)
      refine ⟨[some (.d (plan c r h ps gs)), some (.d (.tup (ps.map d4))), some (.d (d4 (pg ps i))), none], ?_, _, rfl⟩
      generalize d4 (pg ps i) = X at *
      generalize ps.map d4 = PS at *
      simp [turnC, wipeS, noX, e, backS]) (le_line (by simpa using hl))
  rw [← ps_rg] at e
  simp only [runFn, f_room_rows, b_room_rows]
  unfold ROWS
  generalize ps.map d4 = PS at *
  simp [endC, retC, outA_eq, p3, wipeS, e, backS]
end Law

/-! K14d: rooms from one peg, by the program and by the law. -/
namespace Law
open PySem L2 R
open PyProof.Rows hiding St
/-! ### plain -/
def relO (w : Nat → Nat → Int) (f : Nat → Option Int) (u : Nat) (x : Int) : Nat → Option Int := fun j => match f j with
  | none => some (x + w u j)
  | some y => if x + w u j < y then some (x + w u j) else some y
def relQ (w : Nat → Nat → Int) (f : Nat → Option Int) (g : Nat → Option Nat) (u : Nat) (x : Int) : Nat → Option Nat := fun j => match f j with
  | none => some u
  | some y => if x + w u j < y then some u else g j
def mix {α : Type} (a b : Nat → α) (k : Nat) : Nat → α := fun j => if j < k then a j else b j
theorem mix_0 {α : Type} (a b : Nat → α) : mix a b 0 = b := by
  funext j
  simp [mix]
theorem mix_up {α : Type} (a b : Nat → α) (k : Nat) (v : α) (h : v = a k) : up (mix a b k) k v = mix a b (k + 1) := by
  funext j
  unfold up mix
  by_cases h1 : j = k
  · subst h1
    rw [if_pos rfl, if_pos (by omega), h]
  · rw [if_neg h1]
    by_cases h2 : j < k
    · rw [if_pos h2, if_pos (by omega)]
    · rw [if_neg h2, if_neg (by omega)]
theorem mix_id {α : Type} (a b : Nat → α) (k : Nat) (h : a k = b k) : mix a b (k + 1) = mix a b k := by
  funext j
  unfold mix
  by_cases h1 : j = k
  · subst h1
    rw [if_pos (by omega), if_neg (by omega), h]
  · by_cases h2 : j < k
    · rw [if_pos h2, if_pos (by omega)]
    · rw [if_neg h2, if_neg (by omega)]
theorem mix_k {α : Type} (a b : Nat → α) (k : Nat) : mix a b k k = b k := by simp [mix]
theorem LO_congr {m : Nat} {f f' : Nat → Option Int} (h : ∀ j, j < m → f j = f' j) : LO m f = LO m f' := by
  unfold LO pl
  congr 1
  refine List.map_congr_left fun j hj => ?_
  simp only [h j (by simpa using hj)]
theorem LN_congr {m : Nat} {g g' : Nat → Option Nat} (h : ∀ j, j < m → g j = g' j) : LN m g = LN m g' := by
  unfold LN pl
  congr 1
  refine List.map_congr_left fun j hj => ?_
  simp only [h j (by simpa using hj)]
theorem mix_m {α : Type} (a b : Nat → α) {m j : Nat} (h : j < m) : mix a b m j = a j := by simp [mix, h]
theorem rel_u {w : Nat → Nat → Int} {f : Nat → Option Int} {u : Nat} {x : Int} (hfu : f u = some x) (hw : w u u = 0) : relO w f u x u = some x := by
  unfold relO
  rw [hfu, hw]
  simp
structure Sd where
  F : Nat → Int
  g : Nat → Option Nat
  S : List Nat
def fO (F : Nat → Int) : Nat → Option Int := fun j => some (F j)
def lapR (w : Nat → Nat → Int) (m : Nat) (s : Sd) : Sd := match pk (fO s.F) s.S m with
  | none => s
  | some (_, u) => ⟨relF w s.F u, relG w s.F s.g u, s.S ++ [u]⟩
def runR (w : Nat → Nat → Int) (m p : Nat) : Nat → Sd
  | 0 => ⟨w p, fun j => if j = p then none else some p, [p]⟩
  | k + 1 => lapR w m (runR w m p k)
def cnt (S : List Nat) : Nat → Nat
  | 0 => 0
  | k + 1 => cnt S k + if k ∈ S then 0 else 1
theorem cnt_nil : ∀ k, cnt [] k = k
  | 0 => rfl
  | k + 1 => by simp [cnt, cnt_nil k]
theorem cnt_ge (S : List Nat) (u : Nat) : ∀ k, k ≤ u → cnt (S ++ [u]) k = cnt S k
  | 0, _ => rfl
  | k + 1, h => by
    have e : (k ∈ S ++ [u]) ↔ k ∈ S := by simp; omega
    simp only [cnt, cnt_ge S u k (by omega), e]
theorem cnt_lt (S : List Nat) (u : Nat) (hu : u ∉ S) : ∀ k, u < k → cnt (S ++ [u]) k + 1 = cnt S k
  | 0, h => by omega
  | k + 1, h => by
    rcases Nat.lt_succ_iff_lt_or_eq.mp h with q | q
    · have e : (k ∈ S ++ [u]) ↔ k ∈ S := by simp; omega
      have := cnt_lt S u hu k q
      simp only [cnt, e]
      omega
    · subst q
      have h1 : u ∈ S ++ [u] := by simp
      simp only [cnt, cnt_ge S u u (Nat.le_refl _), if_pos h1, if_neg hu]
theorem cnt_zero {S : List Nat} : ∀ {k : Nat}, cnt S k = 0 → ∀ j, j < k → j ∈ S
  | 0, _, j, h => by omega
  | k + 1, e, j, h => by
    rw [cnt] at e
    have e1 : cnt S k = 0 := by omega
    rcases Nat.lt_succ_iff_lt_or_eq.mp h with q | q
    · exact cnt_zero e1 j q
    · subst q
      by_cases hk : j ∈ S
      · exact hk
      · rw [if_neg hk] at e
        omega
theorem cnt_pos {S : List Nat} : ∀ {k : Nat}, 0 < cnt S k → ∃ j, j < k ∧ j ∉ S
  | 0, h => by simp [cnt] at h
  | k + 1, h => by
    rw [cnt] at h
    by_cases hk : k ∈ S
    · rw [if_pos hk] at h
      obtain ⟨j, a, b⟩ := cnt_pos (k := k) (by omega)
      exact ⟨j, by omega, b⟩
    · exact ⟨k, by omega, hk⟩
theorem run_DI {m p : Nat} {w : Nat → Nat → Int} (hp : p < m) (hw : ∀ i j, i < m → j < m → 0 ≤ w i j) (w0 : w p p = 0) : ∀ k, DI m p w (runR w m p k).F (runR w m p k).g (runR w m p k).S
  | 0 => di_one hp hw w0
  | k + 1 => by
    have ih := run_DI hp hw w0 k
    rw [runR]
    unfold lapR
    split
    · exact ih
    · rename_i x u h
      exact di_step hw ih h
theorem run_cnt {m p : Nat} {w : Nat → Nat → Int} (hp : p < m) : ∀ k, k + 1 ≤ m → cnt (runR w m p k).S m + k + 1 = m
  | 0, _ => by
    have := cnt_lt [] p (by simp) m hp
    rw [cnt_nil] at this
    exact this
  | k + 1, h => by
    have ih := run_cnt (w := w) hp k (by omega)
    rw [runR]
    unfold lapR
    cases e : pk (fO (runR w m p k).F) (runR w m p k).S m with
    | none =>
      obtain ⟨j, a, b⟩ := cnt_pos (S := (runR w m p k).S) (k := m) (by omega)
      exact absurd e (pk_some.pk_none b a rfl)
    | some q =>
      obtain ⟨x, u⟩ := q
      obtain ⟨h1, h2, _, _⟩ := pk_some e
      have := cnt_lt _ u h2 m h1
      show cnt ((runR w m p k).S ++ [u]) m + (k + 1) + 1 = m
      omega
theorem run_pick {m p : Nat} {w : Nat → Nat → Int} (hp : p < m) (k : Nat) (h : k + 1 < m) : ∃ x u, pk (fO (runR w m p k).F) (runR w m p k).S m = some (x, u) := by
  have hc := run_cnt (w := w) hp k (by omega)
  cases e : pk (fO (runR w m p k).F) (runR w m p k).S m with
  | none =>
    obtain ⟨j, a, b⟩ := cnt_pos (S := (runR w m p k).S) (k := m) (by omega)
    exact absurd e (pk_some.pk_none b a rfl)
  | some q => exact ⟨q.1, q.2, rfl⟩
theorem run_full {m p : Nat} {w : Nat → Nat → Int} (hp : p < m) : pk (fO (runR w m p (m - 1)).F) (runR w m p (m - 1)).S m = none := by
  have hc := run_cnt (w := w) hp (m - 1) (by omega)
  cases e : pk (fO (runR w m p (m - 1)).F) (runR w m p (m - 1)).S m with
  | none => rfl
  | some q =>
    obtain ⟨x, u⟩ := q
    obtain ⟨h1, h2, _, _⟩ := pk_some e
    exact absurd (cnt_zero (by omega) u h1) h2
theorem relO_F (w : Nat → Nat → Int) (F : Nat → Int) (u : Nat) : relO w (fO F) u (F u) = fO (relF w F u) := by
  funext j
  unfold relO fO relF
  simp only
  split <;> rfl
theorem relQ_G (w : Nat → Nat → Int) (F : Nat → Int) (g : Nat → Option Nat) (u : Nat) : relQ w (fO F) g u (F u) = relG w F g u := by
  funext j
  unfold relQ fO relG
  rfl
def f0 (p : Nat) : Nat → Option Int := up (fun _ => none) p (some 0)
theorem relO_0 {w : Nat → Nat → Int} {p : Nat} (w0 : w p p = 0) : relO w (f0 p) p 0 = fO (w p) := by
  funext j
  unfold relO fO f0 up
  by_cases h : j = p
  · subst h
    simp [w0]
  · simp [h]
theorem relQ_0 {w : Nat → Nat → Int} {p : Nat} (w0 : w p p = 0) : relQ w (f0 p) (fun _ => none) p 0 = fun j => if j = p then none else some p := by
  funext j
  unfold relQ f0 up
  by_cases h : j = p
  · subst h
    simp [w0]
  · simp [h]
/-! ### the program -/
def bR : List S := [
      .ite (.or (.cmp .is (.idxv 2 (.get 6)) (.lit .non)) (.cmp .lt (.bin .add (.idxv 2 (.get 5)) (.get 7)) (.idxv 2 (.get 6)))) [
        .setix 2 (.get 6) (.bin .add (.idxv 2 (.get 5)) (.get 7)),
        .setix 3 (.get 6) (.get 5)] []]
theorem r_turn (n m u k : Nat) (w : Nat → Nat → Int) (f F : Nat → Option Int) (g G : Nat → Option Nat) (x : Int) (hu : u < m) (hk : k < m) (hx : mix F f k u = some x) (hF : F = relO w f u x) (hG : G = relQ w f g u x) (a0 a1 a4 x6 x7 : Option PV) :
    turnF (Cn n) FU (.t [(.n 6), (.n 7)]) bR (.tup [.int (k : Int), .int (w u k)]) [a0, a1, some (LO m (mix F f k)), some (LN m (mix G g k)), a4, some (.d (.int (u : Int))), x6, x7] =
      .nx [a0, a1, some (LO m (mix F f (k + 1))), some (LN m (mix G g (k + 1))), a4, some (.d (.int (u : Int))), some (.d (.int (k : Int))), some (.d (.int (w u k)))] := by
  have eu := ixLO m (mix F f k) u hu
  have ek := ixLO m (mix F f k) k hk
  have s2 := stLO m (mix F f k) k hk (x + w u k)
  have s3 := stLN m (mix G g k) k hk u
  rw [hx] at eu
  rw [mix_k] at ek
  have hFk : F k = relO w f u x k := by rw [hF]
  have hGk : G k = relQ w f g u x k := by rw [hG]
  unfold relO at hFk
  unfold relQ at hGk
  cases efk : f k with
  | none =>
    rw [efk] at ek hFk hGk
    rw [mix_up F f k _ hFk.symm] at s2
    rw [mix_up G g k _ hGk.symm] at s3
    generalize LO m (mix F f k) = A at *
    generalize LN m (mix G g k) = B at *
    generalize LO m (mix F f (k + 1)) = A' at *
    generalize LN m (mix G g (k + 1)) = B' at *
    simp only [oD] at eu ek
    simp [turnF, bR, eu, ek, s2, s3]
  | some y =>
    rw [efk] at ek hFk hGk
    simp only at hFk hGk
    by_cases hlt : x + w u k < y
    · rw [if_pos hlt] at hFk hGk
      rw [mix_up F f k _ hFk.symm] at s2
      rw [mix_up G g k _ hGk.symm] at s3
      generalize LO m (mix F f k) = A at *
      generalize LN m (mix G g k) = B at *
      generalize LO m (mix F f (k + 1)) = A' at *
      generalize LN m (mix G g (k + 1)) = B' at *
      simp only [oD] at eu ek
      simp [turnF, bR, eu, ek, s2, s3, hlt]
    · rw [if_neg hlt] at hFk hGk
      rw [mix_id F f k (by rw [hFk, efk]), mix_id G g k hGk]
      generalize LO m (mix F f k) = A at *
      generalize LN m (mix G g k) = B at *
      simp only [oD] at eu ek
      simp [turnF, bR, eu, ek, hlt]
theorem r_lap (n m u : Nat) (w : Nat → Nat → Int) (f : Nat → Option Int) (g : Nat → Option Nat) (x : Int) (hu : u < m) (hfu : f u = some x) (hw : w u u = 0) (a0 a1 a4 x6 x7 : Option PV) : ∃ y6 y7,
    seqL (turnF (Cn n) FU (.t [(.n 6), (.n 7)]) bR) ((List.range m).map fun (j : Nat) => .tup [.int (j : Int), .int (w u j)]) [a0, a1, some (LO m f), some (LN m g), a4, some (.d (.int (u : Int))), x6, x7] =
      .nx [a0, a1, some (LO m (relO w f u x)), some (LN m (relQ w f g u x)), a4, some (.d (.int (u : Int))), y6, y7] := by
  obtain ⟨σ', e, y6, y7, rfl⟩ := seqL_inv (f := turnF (Cn n) FU (.t [(.n 6), (.n 7)]) bR)
    (fun k τ => ∃ y6 y7, τ = [a0, a1, some (LO m (mix (relO w f u x) f k)), some (LN m (mix (relQ w f g u x) g k)), a4, some (.d (.int (u : Int))), y6, y7])
    ((List.range m).map fun (j : Nat) => .tup [.int (j : Int), .int (w u j)]) 0 [a0, a1, some (LO m f), some (LN m g), a4, some (.d (.int (u : Int))), x6, x7] ⟨x6, x7, by rw [mix_0, mix_0]⟩ fun j z τ hj ⟨y6, y7, hz⟩ => by
      subst hz
      rw [List.getElem?_map] at hj
      cases hq : (List.range m)[j]? with
      | none => rw [hq] at hj; cases hj
      | some k =>
        rw [hq] at hj
        cases hj
        obtain ⟨h1, h2⟩ := List.getElem?_eq_some_iff.mp hq
        have hk : k = j := by simpa using h2.symm
        subst hk
        have hkm : k < m := by simpa using h1
        rw [Nat.zero_add]
        have hx : mix (relO w f u x) f k u = some x := by
          unfold mix
          split
          · exact rel_u hfu hw
          · exact hfu
        exact ⟨_, .inl (r_turn n m u k w f (relO w f u x) g (relQ w f g u x) x hu hkm hx rfl rfl a0 a1 a4 y6 y7), _, _, rfl⟩
  refine ⟨y6, y7, ?_⟩
  rw [e]
  have hl : 0 + ((List.range m).map fun (j : Nat) => Dat.tup [.int (j : Int), .int (w u j)]).length = m := by simp
  rw [hl, LO_congr (f' := relO w f u x) fun j hj => mix_m _ _ hj, LN_congr (g' := relQ w f g u x) fun j hj => mix_m _ _ hj]
def RW (w : Nat → Nat → Int) (m : Nat) : PV := .lst (pl (fun i => .lst ((List.range m).map fun (j : Nat) => Dat.int (w i j))) (List.range m))
theorem ixRW (w : Nat → Nat → Int) (m u : Nat) (hu : u < m) : idxP (RW w m) (.int (u : Int)) = some (.lst ((List.range m).map fun (j : Nat) => Dat.int (w u j))) := ix_rg (fun i => .lst ((List.range m).map fun (j : Nat) => Dat.int (w i j))) m u hu
def bW : List S := [
    .dput 4 (.get 5) (.lit (.bl true)),
    .for_ .enum [(.idxv 0 (.get 5))] (.t [(.n 6), (.n 7)]) bR,
    .set 5 (.call 15 [.lend 2, .lend 4])]
theorem w_body (n m u : Nat) (hm : m ≤ 1000) (w : Nat → Nat → Int) (f : Nat → Option Int) (g : Nat → Option Nat) (S : List Nat) (x : Int) (hu : u < m) (huS : u ∉ S) (hS : S.length < 1000) (hfu : f u = some x) (hw : w u u = 0) (a1 x6 x7 : Option PV) : ∃ y6 y7,
    execB (Cn (n + 1)) FU bW [some (RW w m), a1, some (LO m f), some (LN m g), some (DN S), some (.d (.int (u : Int))), x6, x7] =
      .nx [some (RW w m), a1, some (LO m (relO w f u x)), some (LN m (relQ w f g u x)), some (DN (S ++ [u])), some (.d (oN ((pk (relO w f u x) (S ++ [u]) m).map (·.2)))), y6, y7] := by
  obtain ⟨y6, y7, e⟩ := r_lap (n + 1) m u w f g x hu hfu hw (some (RW w m)) a1 (some (DN (S ++ [u]))) x6 x7
  have e2 := k_near n m hm (relO w f u x) (S ++ [u])
  have e3 := dput_S S u huS hS
  have e4 := ixRW w m u hu
  have hi : itsOf .enum [.lst ((List.range m).map fun (j : Nat) => Dat.int (w u j))] = some (.l ((List.range m).map fun (j : Nat) => .tup [.int (j : Int), .int (w u j)])) := by
    show some (Its.l (enumD 0 ((List.range m).map fun (j : Nat) => Dat.int (w u j)))) = _
    rw [enum_rg]
  refine ⟨y6, y7, ?_⟩
  have ⟨A', hA'⟩ : ∃ L, LO m (relO w f u x) = .lst L := ⟨_, rfl⟩
  have ⟨D1, D2, hD'⟩ : ∃ K V, DN (S ++ [u]) = .dic false K V := ⟨_, _, rfl⟩
  rw [hA'] at e e2 ⊢
  rw [hD'] at e e2 e3 ⊢
  clear hA' hD'
  generalize LN m (relQ w f g u x) = B' at *
  generalize LO m f = A at *
  generalize LN m g = B at *
  generalize DN S = D at *
  generalize RW w m = W at *
  generalize oN ((pk (relO w f u x) (S ++ [u]) m).map (·.2)) = O at *
  generalize ((List.range m).map fun (j : Nat) => Dat.tup [.int (j : Int), .int (w u j)]) = E1 at *
  generalize ((List.range m).map fun (j : Nat) => Dat.int (w u j)) = E2 at *
  simp [bW, e3, e4, hi, e, takeL, giveL, lendOf, e2]
def cW (C : CF) (τ : Sto) : Res Bool := (evalE C (.cmp .isnot (.get 5) (.lit .non)) τ).bind fun p τ1 => optR (truO p.frz) τ1
theorem w_loop (n m p : Nat) (hm : m ≤ 900) (w : Nat → Nat → Int) (hp : p < m) (hw : ∀ i j, i < m → j < m → 0 ≤ w i j) (w0 : ∀ i, w i i = 0) (a1 : Option PV) : ∀ (d k fl : Nat), k + d + 1 = m → d < fl → ∀ (x6 x7 : Option PV), ∃ y6 y7,
    whileF (cW (Cn (n + 1))) (execB (Cn (n + 1)) FU bW) fl [some (RW w m), a1, some (LO m (fO (runR w m p k).F)), some (LN m (runR w m p k).g), some (DN (runR w m p k).S), some (.d (oN ((pk (fO (runR w m p k).F) (runR w m p k).S m).map (·.2)))), x6, x7] =
      .nx [some (RW w m), a1, some (LO m (fO (runR w m p (m - 1)).F)), some (LN m (runR w m p (m - 1)).g), some (DN (runR w m p (m - 1)).S), some (.d .non), y6, y7]
  | 0, k, 0, hk, hd => by omega
  | 0, k, fl + 1, hk, hd => fun x6 x7 => by
    have hk' : k = m - 1 := by omega
    subst hk'
    rw [run_full hp]
    refine ⟨x6, x7, ?_⟩
    generalize RW w m = W
    generalize LO m (fO (runR w m p (m - 1)).F) = A
    generalize LN m (runR w m p (m - 1)).g = B
    generalize DN (runR w m p (m - 1)).S = D
    simp [whileF, cW, oN]
  | d + 1, k, 0, hk, hd => by omega
  | d + 1, k, fl + 1, hk, hd => fun x6 x7 => by
    obtain ⟨x, u, e⟩ := run_pick (w := w) hp k (by omega)
    obtain ⟨h1, h2, h3, _⟩ := pk_some e
    have hxF : x = (runR w m p k).F u := by simpa [fO] using h3.symm
    have hlen : (runR w m p k).S.length < 1000 := by
      have hS : ∀ k, (runR w m p k).S.length ≤ k + 1 := by
        intro k
        induction k with
        | zero => simp [runR]
        | succ k ih =>
          rw [runR]
          unfold lapR
          split
          · omega
          · simp; omega
      have := hS k
      omega
    obtain ⟨z6, z7, e1⟩ := w_body n m u (by omega) w (fO (runR w m p k).F) (runR w m p k).g (runR w m p k).S x h1 h2 hlen h3 (w0 u) a1 x6 x7
    have eR : runR w m p (k + 1) = ⟨relF w (runR w m p k).F u, relG w (runR w m p k).F (runR w m p k).g u, (runR w m p k).S ++ [u]⟩ := by
      rw [runR]
      unfold lapR
      rw [e]
    obtain ⟨y6, y7, e2⟩ := w_loop n m p hm w hp hw w0 a1 d (k + 1) fl (by omega) (by omega) z6 z7
    rw [hxF, relO_F, relQ_G] at e1
    rw [eR] at e2
    refine ⟨y6, y7, ?_⟩
    rw [e]
    simp only [Option.map_some]
    have hc : ∀ a2 a3 a4, cW (Cn (n + 1)) [some (RW w m), a1, a2, a3, a4, some (.d (oN (some u))), x6, x7] = .ok true [some (RW w m), a1, a2, a3, a4, some (.d (oN (some u))), x6, x7] := fun a2 a3 a4 => by
      generalize RW w m = W
      simp [cW, oN]
    rw [whileF, hc]
    simp only
    have eo : oN (some u) = .int (u : Int) := rfl
    rw [eo, e1]
    exact e2
end Law

/-! K14e: rooms_from whole; the law's own. -/
namespace Law
open PySem L2 R
open PyProof.Rows hiding St
theorem ex_wh (C : CF) (fu : Nat) (c : E) (b : List S) (σ : Sto) : execS C fu (.wh c b) σ = whileF (fun τ => (evalE C c τ).bind fun p τ1 => optR (truO p.frz) τ1) (execB C fu b) fu σ := by rw [execS] <;> rfl
theorem mul_non (m : Nat) (hm : m ≤ 1000) : binD .mul (.lst [.non]) (.int (m : Int)) = some (LO m fun _ => none) := by
  have h1 : inR (m : Int) = true := inR_mk (by omega) (by omega)
  have h2 : (1 * (m : Int).toNat) ≤ sizeLine := le_line (by omega)
  have e : (List.replicate (m : Int).toNat [Dat.non]).flatten = (List.range m).map fun _ => Dat.non := by
    rw [Int.toNat_natCast]
    clear hm h1 h2
    induction m with
    | zero => rfl
    | succ m ih => rw [List.replicate_succ', List.flatten_append, ih, List.range_succ, List.map_append]; rfl
  show (if inR (m : Int) && decide ([Dat.non].length * (m : Int).toNat ≤ sizeLine) then some (dl (List.replicate (m : Int).toNat [Dat.non]).flatten) else none) = _
  rw [h1, e]
  simp only [List.length_cons, List.length_nil, Nat.zero_add, h2, decide_true, Bool.and_self, if_true]
  unfold LO pl oD
  show some (PV.lst (((List.range m).map fun _ => Dat.non).map .d)) = _
  rw [List.map_map]
  rfl
theorem mul_non' (m : Nat) (hm : m ≤ 1000) : binD .mul (.lst [.non]) (.int (m : Int)) = some (LN m fun _ => none) := by
  rw [mul_non m hm]
  rfl
theorem vw_rows0 (ps : List Q4) (h : 0 < ps.length) : vwP (ROWS ps) = none := by
  unfold ROWS vwP
  cases hm : ps.length with
  | zero => omega
  | succ k =>
    rw [List.range_succ_eq_map]
    rfl
theorem thaw_rows (ps : List Q4) : ∃ xs, ROWS ps = .lst xs ∧ (frzs xs).length = ps.length ∧ PV.lst (thawL xs) = RW (wR ps) ps.length := by
  refine ⟨_, rfl, ?_, ?_⟩
  · rw [frzs_mapG]
    simp
  · unfold thawL RW pl
    rw [List.map_map]
    congr 1
    refine List.map_congr_left fun i _ => ?_
    show PV.d (PV.frz (PV.lst ((List.range ps.length).map fun j => PV.d (.int (wR ps i j))))) = _
    rw [PV.frz, frzs_mapG]
    rfl
theorem vw_RW (w : Nat → Nat → Int) (m : Nat) : vwP (RW w m) = some (.lst ((List.range m).map fun i => .lst ((List.range m).map fun (j : Nat) => Dat.int (w i j)))) := pl_vw _ _
def rF (ps : List Q4) (p : Nat) : Nat → Int := (runR (wR ps) ps.length p (ps.length - 1)).F
def rG (ps : List Q4) (p : Nat) : Nat → Option Nat := (runR (wR ps) ps.length p (ps.length - 1)).g
theorem c_rooms (n : Nat) (ps : List Q4) (hN : (ps.map pos).Nodup) (hl : ps.length ≤ 900) (p : Nat) (hp : p < ps.length) :
    Cn (n + 2) 16 [ROWS ps, .d (.int (p : Int))] = .ok (.tup [LO ps.length (fO (rF ps p)), LN ps.length (rG ps p)]) [RW (wR ps) ps.length, .d (.int (p : Int))] := by
  show runFn (Cn (n + 1)) FU f_rooms_from _ = _
  have hb : f_rooms_from = ⟨2, 8, [], [.set 2 (.bin .mul (.lst [(.lit .non)]) (.bi .len [(.vw 0)])),
    .set 3 (.bin .mul (.lst [(.lit .non)]) (.bi .len [(.vw 0)])),
    .setix 2 (.get 1) (.lit (.int 0)), .set 4 (.dnew false), .set 5 (.get 1),
    .wh (.cmp .isnot (.get 5) (.lit .non)) bW, .ret (.tup [.mov 2, .mov 3])]⟩ := rfl
  obtain ⟨xs, e1, e2, e3⟩ := thaw_rows ps
  have v0 := vw_rows0 ps (by omega)
  have v1 := vw_RW (wR ps) ps.length
  have m1 := mul_non ps.length (by omega)
  have hAB : LN ps.length (fun _ => none) = LO ps.length (fun _ => none) := rfl
  have s1 := stLO ps.length (fun _ => none) p hp 0
  have eS : up (fun _ => (none : Option Int)) p (some 0) = f0 p := rfl
  rw [eS] at s1
  have hw : ∀ i j, i < ps.length → j < ps.length → 0 ≤ wR ps i j := fun i j hi hj => wR_pos hN hi hj
  have w0 : ∀ i, wR ps i i = 0 := fun i => by simp [wR]
  obtain ⟨z6, z7, b1⟩ := w_body n ps.length p (by omega) (wR ps) (f0 p) (fun _ => none) [] 0 hp (by simp) (by simp) (by simp [f0, up]) (w0 p) (some (.d (.int (p : Int)))) none none
  rw [relO_0 (w0 p), relQ_0 (w0 p)] at b1
  obtain ⟨y6, y7, b2⟩ := w_loop n ps.length p hl (wR ps) hp hw w0 (some (.d (.int (p : Int)))) (ps.length - 1) 0 999 (by omega) (by omega) z6 z7
  have hc : ∀ a2 a3 a4, cW (Cn (n + 1)) [some (RW (wR ps) ps.length), some (.d (.int (p : Int))), a2, a3, a4, some (.d (.int (p : Int))), none, none] = .ok true [some (RW (wR ps) ps.length), some (.d (.int (p : Int))), a2, a3, a4, some (.d (.int (p : Int))), none, none] := fun a2 a3 a4 => by
    generalize RW (wR ps) ps.length = W
    simp [cW]
  have hd : DN [] = .dic false [] [] := rfl
  have hwh : whileF (cW (Cn (n + 1))) (execB (Cn (n + 1)) FU bW) FU [some (RW (wR ps) ps.length), some (.d (.int (p : Int))), some (LO ps.length (f0 p)), some (LN ps.length fun _ => none), some (.dic false [] []), some (.d (.int (p : Int))), none, none] =
      .nx [some (RW (wR ps) ps.length), some (.d (.int (p : Int))), some (LO ps.length (fO (rF ps p))), some (LN ps.length (rG ps p)), some (DN (runR (wR ps) ps.length p (ps.length - 1)).S), some (.d .non), y6, y7] := by
    show whileF _ _ (999 + 1) _ = _
    rw [whileF, hc]
    simp only
    rw [← hd, b1]
    exact b2
  have hwh2 : ∀ σ, execS (Cn (n + 1)) FU (.wh (.cmp .isnot (.get 5) (.lit .non)) bW) σ = whileF (cW (Cn (n + 1))) (execB (Cn (n + 1)) FU bW) FU σ := fun σ => ex_wh _ _ _ _ σ
  rw [← hwh2, hAB] at hwh
  clear hwh2
  rw [e1] at v0 ⊢
  rw [hb]
  simp only [runFn]
  generalize hA0 : LO ps.length (fun _ => none) = A0 at *
  generalize hA1 : LO ps.length (f0 p) = A1 at *
  have ⟨A2, hA2⟩ : ∃ L, LO ps.length (fO (rF ps p)) = .lst L := ⟨_, rfl⟩
  have ⟨B2, hB2⟩ : ∃ L, LN ps.length (rG ps p) = .lst L := ⟨_, rfl⟩
  rw [hA2, hB2] at hwh ⊢
  rw [← e3] at v1 hwh ⊢
  have hlen : (frzs xs).length = ps.length := e2
  have hn : (List.length (List.map (fun i => Dat.lst ((List.range ps.length).map fun (j : Nat) => Dat.int (wR ps i j))) (List.range ps.length))) = ps.length := by simp
  generalize (List.map (fun i => Dat.lst ((List.range ps.length).map fun (j : Nat) => Dat.int (wR ps i j))) (List.range ps.length)) = RR at *
  generalize ps.length = m at *
  clear b1 b2 hc
  have hf1 : ∀ x, (PV.lst [PV.d x]).frz = .lst [x] := fun _ => rfl
  simp [endC, retC, outA_eq, v0, v1, hlen, hn, m1, s1, hwh, mkTup, allD, hf1]
/-! ### the law's -/
def bst : Option (Int × Nat) → Int
  | none => -1
  | some q => (q.2 : Int)
def bA : List S := [
      .ite (.and (.cmp .notmem (.get 7) (.vw 4)) (.and (.cmp .isnot (.idxv 3 (.get 7)) (.lit .non)) (.or (.cmp .lt (.get 6) (.lit (.int 0))) (.cmp .lt (.idxv 3 (.get 7)) (.idxv 3 (.get 6)))))) [
        .set 6 (.get 7)] []]
def nS (S : List Nat) : List Int := S.map fun (s : Nat) => (s : Int)
theorem lays_i : ∀ L : List Int, PyData.canLayAll0 (pys (L.map Dat.int)) = true ∧ PyData.depthAll (pys (L.map Dat.int)) ≤ 1
  | [] => by simp [pys, PyData.canLayAll0, PyData.depthAll]
  | x :: L => by
    have := lays_i L
    simp [pys, Dat.py, PyData.canLayAll0, PyData.canLay0, PyData.depthAll, PyData.depth, this.1]
    omega
theorem shaped_ints (L : List Int) : eqOk (.lst (L.map .int)) = true := by
  have h2 := lays_i L
  have := h2.2
  simp [eqOk, SeqAt.shaped, Dat.py, PyData.canLay0, PyData.depth, h2.1]
  omega
theorem notmem_S (S : List Nat) (j : Nat) : cmpD .notmem (.int (j : Int)) (.lst ((nS S).map .int)) = some (!decide (j ∈ S)) := by
  have hn : ∀ L : List Int, noDics (L.map .int) = true := by
    intro L
    induction L with
    | nil => rfl
    | cons x L ih => simp [noDics, noDic, ih]
  have h1 : noDics ((nS S).map .int) = true := hn _
  have h2 : eqOk (.lst ((nS S).map .int)) = true := by
    have : ∀ L : List Int, eqOk (.lst (L.map .int)) = true := by
      intro L
      have h := shaped_ints L
      exact h
    exact this _
  have h3 : ((nS S).map Dat.int).any (fun z => PyData.eqv z.py (Dat.int (j : Int)).py) = decide (j ∈ S) := by
    unfold nS
    rw [List.map_map, List.any_map]
    induction S with
    | nil => rfl
    | cons s S ih =>
      rw [List.any_cons, ih ?_ ?_]
      · have : PyData.eqv (Dat.int (s : Int)).py (Dat.int (j : Int)).py = decide (s = j) := by
          show ((s : Int) == (j : Int)) = decide (s = j)
          rw [Bool.eq_iff_iff]
          simp
          omega
        simp only [Function.comp]
        rw [this]
        by_cases h : s = j
        · simp [h]
        · have h' : ¬ j = s := fun z => h z.symm
          simp [h, h']
      · exact hn _
      · exact shaped_ints _
  show (memD (.int (j : Int)) ((nS S).map .int)).map (!·) = _
  unfold memD
  have h0 : (noDic (.int (j : Int)) && noDics ((nS S).map .int) && eqOk (.int (j : Int)) && eqOk (.lst ((nS S).map .int))) = true := by
    rw [h1, h2]
    rfl
  rw [if_pos h0, h3]
  rfl
end Law

/-! K14f: the law's own rooms from one peg. -/
namespace Law
open PySem L2 R
open PyProof.Rows hiding St
theorem a_turn (n m k : Nat) (f : Nat → Option Int) (S : List Nat) (hk : k < m) (a0 a1 a2 a5 a7 a8 : Option PV) :
    turnF (Cn n) FU (.n 7) bA (.int (k : Int)) [a0, a1, a2, some (LO m f), some (.lst (pl .int (nS S))), a5, some (.d (.int (bst (pk f S k)))), a7, a8] =
      .nx [a0, a1, a2, some (LO m f), some (.lst (pl .int (nS S))), a5, some (.d (.int (bst (pk f S (k + 1))))), some (.d (.int (k : Int))), a8] := by
  have ek := ixLO m f k hk
  have em := notmem_S S k
  rw [pk]
  cases ef : f k with
  | none =>
    rw [ef] at ek
    simp only [oD] at ek
    simp only
    generalize LO m f = A at *
    generalize hns : nS S = N' at *
    by_cases hs : k ∈ S
    · simp [turnF, bA, em, ek, hs]
    · simp [turnF, bA, em, ek, hs]
  | some x =>
    rw [ef] at ek
    simp only [oD] at ek
    simp only
    by_cases hs : k ∈ S
    · rw [if_pos hs]
      generalize LO m f = A at *
      generalize hns : nS S = N' at *
      simp [turnF, bA, em, ek, hs]
    · rw [if_neg hs]
      cases ep : pk f S k with
      | none =>
        simp only [bst]
        generalize LO m f = A at *
        generalize hns : nS S = N' at *
        simp [turnF, bA, em, ek, hs]
      | some q =>
        obtain ⟨y, b⟩ := q
        obtain ⟨h1, h2, h3, _⟩ := pk_some ep
        have eb := ixLO m f b (by omega)
        rw [h3] at eb
        simp only [oD] at eb
        have hb0 : ¬ (b : Int) < 0 := by omega
        generalize LO m f = A at *
        generalize hns : nS S = N' at *
        by_cases hlt : x < y
        · simp only [bst, if_pos hlt]
          simp [turnF, bA, em, ek, hs, eb, hb0, hlt]
        · simp only [bst, if_neg hlt]
          simp [turnF, bA, em, ek, hs, eb, hb0, hlt]
theorem a_loop (n m : Nat) (f : Nat → Option Int) (S : List Nat) (a0 a1 a2 a5 a7 a8 : Option PV) : ∃ y7,
    seqR (turnF (Cn n) FU (.n 7) bA) 1 m 0 [a0, a1, a2, some (LO m f), some (.lst (pl .int (nS S))), a5, some (.d (.int (-1))), a7, a8] =
      .nx [a0, a1, a2, some (LO m f), some (.lst (pl .int (nS S))), a5, some (.d (.int (bst (pk f S m)))), y7, a8] := by
  obtain ⟨σ', e, y7, rfl⟩ := seqN_inv (f := turnF (Cn n) FU (.n 7) bA)
    (fun k τ => ∃ y7, τ = [a0, a1, a2, some (LO m f), some (.lst (pl .int (nS S))), a5, some (.d (.int (bst (pk f S k)))), y7, a8]) m 0
    [a0, a1, a2, some (LO m f), some (.lst (pl .int (nS S))), a5, some (.d (.int (-1))), a7, a8] ⟨a7, rfl⟩ fun j τ _ hj ⟨y7, hy⟩ => by
      subst hy
      exact ⟨_, .inl (a_turn n m j f S (by omega) a0 a1 a2 a5 y7 a8), _, rfl⟩
  rw [show ((0 : Nat) : Int) = 0 from rfl, Nat.zero_add] at e
  exact ⟨y7, e⟩
def bL : List S := [
      .ite (.cmp .ne (.get 7) (.vw 6)) [
        .set 8 (.bin .add (.idxv 3 (.get 6)) (.call 25 [(.idx (.idxv 0 (.lit (.int 3))) (.get 6)), (.idx (.idxv 0 (.lit (.int 3))) (.get 7))])),
        .ite (.or (.cmp .is (.idxv 3 (.get 7)) (.lit .non)) (.cmp .lt (.get 8) (.idxv 3 (.get 7)))) [
          .setix 3 (.get 7) (.get 8)] []] []]
theorem l_turn (n : Nat) (P : Pl) (u k : Nat) (f F : Nat → Option Int) (x : Int) (hu : u < P.ps.length) (hk : k < P.ps.length) (hfu : f u = some x) (hF : F = relO (wR P.ps) f u x) (a1 a2 a4 a5 a7 a8 : Option PV) : ∃ y7 y8,
    turnF (Cn (n + 1)) FU (.n 7) bL (.int (k : Int)) [some (.d (dP P)), a1, a2, some (LO P.ps.length (mix F f k)), a4, a5, some (.d (.int (u : Int))), a7, a8] =
      .nx [some (.d (dP P)), a1, a2, some (LO P.ps.length (mix F f (k + 1))), a4, a5, some (.d (.int (u : Int))), y7, y8] := by
  have hw : wR P.ps u u = 0 := by simp [wR]
  have hFk : F k = relO (wR P.ps) f u x k := by rw [hF]
  by_cases hku : k = u
  · subst hku
    rw [rel_u hfu hw] at hFk
    rw [mix_id F f k (by rw [hFk, hfu])]
    refine ⟨some (.d (.int (k : Int))), a8, ?_⟩
    generalize LO P.ps.length (mix F f k) = A
    generalize dP P = D
    simp [turnF, bL]
  · have hx : mix F f k u = some x := by
      unfold mix
      split
      · rw [hF]
        exact rel_u hfu hw
      · exact hfu
    have eu := ixLO P.ps.length (mix F f k) u hu
    have ek := ixLO P.ps.length (mix F f k) k hk
    have s3 := stLO P.ps.length (mix F f k) k hk (x + wR P.ps u k)
    rw [hx] at eu
    rw [mix_k] at ek
    simp only [oD] at eu
    have er : wR P.ps u k = roomI (pg P.ps u) (pg P.ps k) := by
      unfold wR
      rw [if_neg fun z => hku z.symm]
    have p3 := idP3 P
    have pu := at_ps P.ps u hu
    have pk' := at_ps P.ps k hk
    have ec := k_lroom n (pg P.ps u) (pg P.ps k)
    rw [← er] at ec
    have hne : ¬ (k : Int) = (u : Int) := by omega
    unfold relO at hFk
    generalize wR P.ps u k = W at *
    refine ⟨some (.d (.int (k : Int))), some (.d (.int (x + W))), ?_⟩
    cases efk : f k with
    | none =>
      rw [efk] at ek hFk
      simp only [oD] at ek
      rw [mix_up F f k _ hFk.symm] at s3
      generalize LO P.ps.length (mix F f k) = A at *
      generalize LO P.ps.length (mix F f (k + 1)) = A' at *
      generalize P.ps.map d4 = PS at *
      generalize dP P = D at *
      generalize d4 (pg P.ps u) = U at *
      generalize d4 (pg P.ps k) = V at *
      simp [turnF, bL, hne, eu, ek, p3, pu, pk', takeL, giveL, lendOf, ec, s3]
    | some y =>
      rw [efk] at ek hFk
      simp only [oD] at ek
      simp only at hFk
      by_cases hlt : x + W < y
      · rw [if_pos hlt] at hFk
        rw [mix_up F f k _ hFk.symm] at s3
        generalize LO P.ps.length (mix F f k) = A at *
        generalize LO P.ps.length (mix F f (k + 1)) = A' at *
        generalize P.ps.map d4 = PS at *
        generalize dP P = D at *
        generalize d4 (pg P.ps u) = U at *
        generalize d4 (pg P.ps k) = V at *
        simp [turnF, bL, hne, eu, ek, p3, pu, pk', takeL, giveL, lendOf, ec, s3, hlt]
      · rw [if_neg hlt] at hFk
        rw [mix_id F f k (by rw [hFk, efk])]
        generalize LO P.ps.length (mix F f k) = A at *
        generalize P.ps.map d4 = PS at *
        generalize dP P = D at *
        generalize d4 (pg P.ps u) = U at *
        generalize d4 (pg P.ps k) = V at *
        simp [turnF, bL, hne, eu, ek, p3, pu, pk', takeL, giveL, lendOf, ec, hlt]
theorem l_loop (n : Nat) (P : Pl) (u : Nat) (f : Nat → Option Int) (x : Int) (hu : u < P.ps.length) (hfu : f u = some x) (a1 a2 a4 a5 a7 a8 : Option PV) : ∃ y7 y8,
    seqR (turnF (Cn (n + 1)) FU (.n 7) bL) 1 P.ps.length 0 [some (.d (dP P)), a1, a2, some (LO P.ps.length f), a4, a5, some (.d (.int (u : Int))), a7, a8] =
      .nx [some (.d (dP P)), a1, a2, some (LO P.ps.length (relO (wR P.ps) f u x)), a4, a5, some (.d (.int (u : Int))), y7, y8] := by
  obtain ⟨σ', e, y7, y8, rfl⟩ := seqN_inv (f := turnF (Cn (n + 1)) FU (.n 7) bL)
    (fun k τ => ∃ y7 y8, τ = [some (.d (dP P)), a1, a2, some (LO P.ps.length (mix (relO (wR P.ps) f u x) f k)), a4, a5, some (.d (.int (u : Int))), y7, y8]) P.ps.length 0
    [some (.d (dP P)), a1, a2, some (LO P.ps.length f), a4, a5, some (.d (.int (u : Int))), a7, a8] ⟨a7, a8, by rw [mix_0]⟩ fun j τ _ hj ⟨y7, y8, hy⟩ => by
      subst hy
      obtain ⟨z7, z8, e⟩ := l_turn n P u j f (relO (wR P.ps) f u x) x hu (by omega) hfu rfl a1 a2 a4 a5 y7 y8
      exact ⟨_, .inl e, z7, z8, rfl⟩
  rw [show ((0 : Nat) : Int) = 0 from rfl, Nat.zero_add] at e
  refine ⟨y7, y8, ?_⟩
  rw [e, LO_congr (f' := relO (wR P.ps) f u x) fun j hj => mix_m _ _ hj]
def fK (w : Nat → Nat → Int) (m p : Nat) : Nat → Nat → Option Int
  | 0 => f0 p
  | k + 1 => fO (runR w m p k).F
def SK (w : Nat → Nat → Int) (m p : Nat) : Nat → List Nat
  | 0 => []
  | k + 1 => (runR w m p k).S
theorem lap_K {w : Nat → Nat → Int} {m p : Nat} (hp : p < m) (w0 : w p p = 0) : ∀ k, k < m → ∃ x u, pk (fK w m p k) (SK w m p k) m = some (x, u) ∧ relO w (fK w m p k) u x = fK w m p (k + 1) ∧ SK w m p k ++ [u] = SK w m p (k + 1)
  | 0, h => by
    have hf : f0 p p = some 0 := by simp [f0, up]
    show ∃ x u, pk (f0 p) [] m = some (x, u) ∧ relO w (f0 p) u x = fO (w p) ∧ [] ++ [u] = [p]
    cases e : pk (f0 p) [] m with
    | none => exact absurd e (pk_some.pk_none (by simp) hp hf)
    | some q =>
      obtain ⟨x, u⟩ := q
      obtain ⟨_, _, h3, _⟩ := pk_some e
      have hu : u = p := by
        unfold f0 up at h3
        by_cases z : u = p
        · exact z
        · rw [if_neg z] at h3; cases h3
      subst hu
      rw [hf] at h3
      cases h3
      exact ⟨0, u, rfl, relO_0 w0, rfl⟩
  | k + 1, h => by
    obtain ⟨x, u, e⟩ := run_pick (w := w) hp k h
    obtain ⟨_, _, h3, _⟩ := pk_some e
    have hx : x = (runR w m p k).F u := by simpa [fO] using h3.symm
    have eR : runR w m p (k + 1) = ⟨relF w (runR w m p k).F u, relG w (runR w m p k).F (runR w m p k).g u, (runR w m p k).S ++ [u]⟩ := by
      rw [runR]
      unfold lapR
      rw [e]
    refine ⟨x, u, e, ?_, ?_⟩
    · show relO w (fO (runR w m p k).F) u x = fO (runR w m p (k + 1)).F
      rw [hx, relO_F, eR]
    · show (runR w m p k).S ++ [u] = (runR w m p (k + 1)).S
      rw [eR]
theorem SK_len (w : Nat → Nat → Int) (m p : Nat) : ∀ k, (SK w m p k).length ≤ k
  | 0 => Nat.le_refl _
  | 1 => by simp [SK, runR]
  | k + 2 => by
    have ih := SK_len w m p (k + 1)
    simp only [SK] at ih ⊢
    rw [runR]
    unfold lapR
    split
    · omega
    · simp; omega
def bO2 : List S := [
    .set 6 (.neg (.lit (.int 1))),
    .for_ .range [(.get 2)] (.n 7) bA,
    .expr (.meth .append 4 [(.get 6)]),
    .for_ .range [(.get 2)] (.n 7) bL]
theorem nS_snoc (S : List Nat) (u : Nat) : nS (S ++ [u]) = nS S ++ [(u : Int)] := by simp [nS]
theorem o_turn (n : Nat) (P : Pl) (p : Nat) (hp : p < P.ps.length) (hl : P.ps.length ≤ 900) (k : Nat) (hk : k < P.ps.length) (a1 a5 a6 a7 a8 : Option PV) : ∃ y6 y7 y8,
    turnF (Cn (n + 1)) FU (.n 5) bO2 (.int (k : Int)) [some (.d (dP P)), a1, some (.d (.int (P.ps.length : Int))), some (LO P.ps.length (fK (wR P.ps) P.ps.length p k)), some (.lst (pl .int (nS (SK (wR P.ps) P.ps.length p k)))), a5, a6, a7, a8] =
      .nx [some (.d (dP P)), a1, some (.d (.int (P.ps.length : Int))), some (LO P.ps.length (fK (wR P.ps) P.ps.length p (k + 1))), some (.lst (pl .int (nS (SK (wR P.ps) P.ps.length p (k + 1))))), some (.d (.int (k : Int))), y6, y7, y8] := by
  obtain ⟨x, u, h1, h2, h3⟩ := lap_K (w := wR P.ps) hp (by simp [wR]) k hk
  obtain ⟨hu, _, hfu, _⟩ := pk_some h1
  have hS := SK_len (wR P.ps) P.ps.length p k
  obtain ⟨z7, e1⟩ := a_loop (n + 1) P.ps.length (fK (wR P.ps) P.ps.length p k) (SK (wR P.ps) P.ps.length p k) (some (.d (dP P))) a1 (some (.d (.int (P.ps.length : Int)))) (some (.d (.int (k : Int)))) a7 a8
  rw [h1] at e1
  simp only [bst] at e1
  obtain ⟨y7, y8, e2⟩ := l_loop n P u (fK (wR P.ps) P.ps.length p k) x hu hfu a1 (some (.d (.int (P.ps.length : Int)))) (some (.lst (pl .int (nS (SK (wR P.ps) P.ps.length p (k + 1)))))) (some (.d (.int (k : Int)))) z7 a8
  rw [h2] at e2
  have hm := meth_push Dat.int (nS (SK (wR P.ps) P.ps.length p k)) (lt_line (by simp [nS]; omega)) (u : Int)
  rw [← nS_snoc, h3] at hm
  have hr := its_rangeN (n := P.ps.length) (by omega)
  refine ⟨some (.d (.int (u : Int))), y7, y8, ?_⟩
  generalize LO P.ps.length (fK (wR P.ps) P.ps.length p k) = A at *
  generalize LO P.ps.length (fK (wR P.ps) P.ps.length p (k + 1)) = A' at *
  generalize nS (SK (wR P.ps) P.ps.length p k) = Z at *
  generalize nS (SK (wR P.ps) P.ps.length p (k + 1)) = Z' at *
  generalize dP P = D at *
  generalize P.ps.length = m at *
  simp [turnF, bO2, hr, e1, hm, e2]
theorem c_lleast (n : Nat) (P : Pl) (hN : (P.ps.map pos).Nodup) (hl : P.ps.length ≤ 900) (p : Nat) (hp : p < P.ps.length) :
    Cn (n + 2) 29 [.d (dP P), .d (.int (p : Int))] = .ok (LO P.ps.length (fO (rF P.ps p))) [.d (dP P), .d (.int (p : Int))] := by
  show runFn (Cn (n + 1)) FU f__law_least _ = _
  have hb : f__law_least = ⟨2, 9, [], [.set 2 (.bi .len [(.idxv 0 (.lit (.int 3)))]),
    .set 3 (.bin .mul (.lst [(.lit .non)]) (.get 2)), .setix 3 (.get 1) (.lit (.int 0)), .set 4 (.lst []),
    .for_ .range [(.get 2)] (.n 5) bO2, .ret (.mov 3)]⟩ := rfl
  have p3 := idP3 P
  have m1 := mul_non P.ps.length (by omega)
  have s1 := stLO P.ps.length (fun _ => none) p hp 0
  have eS : up (fun _ => (none : Option Int)) p (some 0) = fK (wR P.ps) P.ps.length p 0 := rfl
  rw [eS] at s1
  obtain ⟨σ', e, y5, y6, y7, y8, rfl⟩ := seqN_inv (f := turnF (Cn (n + 1)) FU (.n 5) bO2)
    (fun k τ => ∃ y5 y6 y7 y8, τ = [some (.d (dP P)), some (.d (.int (p : Int))), some (.d (.int (P.ps.length : Int))), some (LO P.ps.length (fK (wR P.ps) P.ps.length p k)), some (.lst (pl .int (nS (SK (wR P.ps) P.ps.length p k)))), y5, y6, y7, y8]) P.ps.length 0
    [some (.d (dP P)), some (.d (.int (p : Int))), some (.d (.int (P.ps.length : Int))), some (LO P.ps.length (fK (wR P.ps) P.ps.length p 0)), some (.lst []), none, none, none, none] ⟨none, none, none, none, rfl⟩ fun j τ _ hj ⟨y5, y6, y7, y8, hy⟩ => by
      subst hy
      obtain ⟨z6, z7, z8, e⟩ := o_turn n P p hp hl j (by omega) (some (.d (.int (p : Int)))) y5 y6 y7 y8
      exact ⟨_, .inl e, _, z6, z7, z8, rfl⟩
  have hm : fK (wR P.ps) P.ps.length p (0 + P.ps.length) = fO (rF P.ps p) := by
    rw [Nat.zero_add]
    unfold rF
    obtain ⟨k, hk⟩ : ∃ k, P.ps.length = k + 1 := ⟨P.ps.length - 1, by omega⟩
    rw [hk]
    rfl
  rw [show ((0 : Nat) : Int) = 0 from rfl, hm] at e
  have hr := its_rangeN (n := P.ps.length) (by omega)
  have hn : (P.ps.map d4).length = P.ps.length := List.length_map _
  have hf1 : ∀ x, (PV.lst [PV.d x]).frz = .lst [x] := fun _ => rfl
  rw [hb]
  simp only [runFn]
  generalize LO P.ps.length (fun _ => none) = A0 at *
  generalize LO P.ps.length (fK (wR P.ps) P.ps.length p 0) = A1 at *
  generalize LO P.ps.length (fO (rF P.ps p)) = A2 at *
  generalize dP P = D at *
  generalize P.ps.map d4 = PS at *
  generalize P.ps.length = m at *
  simp [endC, retC, outA_eq, p3, hn, m1, s1, hr, e, hf1]
end Law

/-! K14g: the chain back, least room and least chain, what is told. -/
namespace Law
open PySem L2 R
open PyProof.Rows hiding St
def LD (m : Nat) (g : Nat → Option Nat) : Dat := .lst ((List.range m).map fun j => oN (g j))
theorem ixLN (m : Nat) (g : Nat → Option Nat) (k : Nat) (hk : k < m) : idxD (LD m g) (.int (k : Int)) = some (oN (g k)) := by
  show L2.atI _ _ = _
  rw [at_map (fun j => oN (g j)) (List.range m) k (by simpa using hk)]
  simp
def cCh (C : CF) (τ : Sto) : Res Bool := (evalE C (.cmp .isnot (.idxv 0 (.idxv 2 (.neg (.lit (.int 1))))) (.lit .non)) τ).bind fun p τ1 => optR (truO p.frz) τ1
def bCh : List S := [.expr (.meth .append 2 [(.idxv 0 (.idxv 2 (.neg (.lit (.int 1)))))])]
theorem ch_loop (n m p : Nat) (g : Nat → Option Nat) (a1 : Option PV) : ∀ (L : List Nat) (a : Nat) (C1 : List Nat) (fl : Nat), Way p g (a :: L) → L.length < fl → (∀ r ∈ a :: L, r < m) → C1.length + L.length < 1000 →
    whileF (cCh (Cn n)) (execB (Cn n) FU bCh) fl [some (.d (LD m g)), a1, some (.lst (pl .int (nS (C1 ++ [a]))))] = .nx [some (.d (LD m g)), a1, some (.lst (pl .int (nS (C1 ++ a :: L))))]
  | [], a, C1, 0, _, h, _, _ => by omega
  | [], a, C1, fl + 1, hw, h, hm, hl => by
    have hg : g a = none := by
      cases hw with
      | one h => exact h
    have e1 := ixLN m g a (hm a (by simp))
    have e2 := idx_last Dat.int (nS C1) (a : Int)
    rw [hg] at e1
    simp only [oN] at e1
    rw [nS_snoc]
    generalize LD m g = G at *
    simp [whileF, cCh, e2, e1]
  | r :: L, a, C1, 0, _, h, _, _ => by omega
  | r :: L, a, C1, fl + 1, hw, h, hm, hl => by
    obtain ⟨hg, hw'⟩ : g a = some r ∧ Way p g (r :: L) := by
      cases hw with
      | more _ _ _ h1 h2 => exact ⟨h1, h2⟩
    have e1 := ixLN m g a (hm a (by simp))
    have e2 := idx_last Dat.int (nS C1) (a : Int)
    have ih := ch_loop n m p g a1 L r (C1 ++ [a]) fl hw' (by simp at h; omega) (fun x hx => hm x (List.mem_cons_of_mem _ hx)) (by simp at hl ⊢; omega)
    have hp := meth_push Dat.int (nS (C1 ++ [a])) (lt_line (by simp [nS] at hl ⊢; omega)) (r : Int)
    rw [← nS_snoc (C1 ++ [a])] at hp
    rw [hg] at e1
    simp only [oN] at e1
    have ea : C1 ++ [a] ++ r :: L = C1 ++ a :: r :: L := by simp
    rw [ea] at ih
    rw [← nS_snoc] at e2
    generalize nS (C1 ++ [a]) = Z1 at *
    generalize nS (C1 ++ [a] ++ [r]) = Z2 at *
    generalize nS (C1 ++ a :: r :: L) = Z3 at *
    generalize LD m g = G at *
    have hc : cCh (Cn n) [some (.d G), a1, some (.lst (pl .int Z1))] = .ok true [some (.d G), a1, some (.lst (pl .int Z1))] := by
      simp [cCh, e2, e1]
    have hb : execB (Cn n) FU bCh [some (.d G), a1, some (.lst (pl .int Z1))] = .nx [some (.d G), a1, some (.lst (pl .int Z2))] := by
      simp [bCh, e2, e1, hp]
    rw [whileF, hc]
    simp only
    rw [hb]
    exact ih
def chD (T : List Nat) : Dat := .tup ((nS T).map .int)
theorem way_lt {m p : Nat} {g : Nat → Option Nat} : True := trivial
theorem c_chain (n m p : Nat) (g : Nat → Option Nat) (q : Nat) (L : List Nat) (hw : Way p g (q :: L)) (hm : ∀ r ∈ q :: L, r < m) (hl : L.length < 900) :
    Cn (n + 1) 17 [.d (LD m g), .d (.int (q : Int))] = .ok (.d (chD (q :: L).reverse)) [.d (LD m g), .d (.int (q : Int))] := by
  show runFn (Cn n) FU f_chain_to _ = _
  have hb : f_chain_to = ⟨2, 3, [], [.set 2 (.lst [(.get 1)]), .wh (.cmp .isnot (.idxv 0 (.idxv 2 (.neg (.lit (.int 1))))) (.lit .non)) bCh, .ret (.bi .tuple [(.revs (.vw 2))])]⟩ := rfl
  have e := ch_loop n m p g (some (.d (.int (q : Int)))) L q [] FU hw (by unfold FU; omega) hm (by simp; omega)
  have hwh : execS (Cn n) FU (.wh (.cmp .isnot (.idxv 0 (.idxv 2 (.neg (.lit (.int 1))))) (.lit .non)) bCh) [some (.d (LD m g)), some (.d (.int (q : Int))), some (.lst [.d (.int (q : Int))])] = .nx [some (.d (LD m g)), some (.d (.int (q : Int))), some (.lst (pl .int (nS (q :: L))))] := by
    rw [ex_wh]
    exact e
  have er : (nS (q :: L)).reverse = nS (q :: L).reverse := by simp [nS]
  have hrv : revD (.lst ((nS (q :: L)).map .int)) = some (.lst (pl .int (nS (q :: L).reverse))) := by
    rw [← er]
    show some (PV.lst (((nS (q :: L)).map Dat.int).reverse.map .d)) = _
    unfold pl
    rw [← List.map_reverse, List.map_map]
    rfl
  have hv : vwP (.lst (pl .int (nS (q :: L)))) = some (.lst ((nS (q :: L)).map .int)) := pl_vw _ _
  rw [hb]
  simp only [runFn]
  unfold chD
  generalize LD m g = G at *
  generalize nS (q :: L) = Z at *
  generalize nS (q :: L).reverse = Z' at *
  simp [endC, retC, outA_eq, hwh, hv, hrv]
theorem k_lr (n : Nat) (P : Pl) (hN : (P.ps.map pos).Nodup) (hl : P.ps.length ≤ 900) (p q : Nat) (hp : p < P.ps.length) (hq : q < P.ps.length) :
    Cn (n + 3) 18 [.d (dP P), .d (.int (p : Int)), .d (.int (q : Int))] = .ok (.d (.int (rF P.ps p q))) [.d (dP P), .d (.int (p : Int)), .d (.int (q : Int))] := by
  show runFn (Cn (n + 2)) FU f_least_room _ = _
  have e1 := c_peg_ok (n + 1) P.c P.r P.h P.ps P.gs p (by omega) (by omega)
  have e2 := c_peg_ok (n + 1) P.c P.r P.h P.ps P.gs q (by omega) (by omega)
  have e3 := k_rows n P.c P.r P.h P.ps P.gs hN (by omega)
  have e4 := c_rooms n P.ps hN hl p hp
  rw [plan_eq] at e1 e2 e3
  have eP : (⟨P.c, P.r, P.h, P.ps, P.gs⟩ : Pl) = P := rfl
  rw [eP] at e1 e2 e3
  have f1 : (PV.tup [LO P.ps.length (fO (rF P.ps p)), LN P.ps.length (rG P.ps p)]).frz = .tup [.lst ((List.range P.ps.length).map fun j => .int (rF P.ps p j)), (LN P.ps.length (rG P.ps p)).frz] := by
    show Dat.tup [(LO P.ps.length (fO (rF P.ps p))).frz, (LN P.ps.length (rG P.ps p)).frz] = _
    congr 2
    show Dat.lst (frzs _) = _
    unfold pl
    rw [frzs_mapG]
    rfl
  have f2 : idxD (.lst ((List.range P.ps.length).map fun j => Dat.int (rF P.ps p j))) (.int (q : Int)) = some (.int (rF P.ps p q)) := by
    show L2.atI _ _ = _
    rw [at_map (fun j => Dat.int (rF P.ps p j)) (List.range P.ps.length) q (by simpa using hq)]
    simp
  have ⟨R0, hR0⟩ : ∃ L, ROWS P.ps = .lst L := ⟨_, rfl⟩
  rw [hR0] at e3 e4
  simp only [runFn, f_least_room, b_least_room]
  generalize (LN P.ps.length (rG P.ps p)).frz = X at *
  generalize hT : (PV.tup [LO P.ps.length (fO (rF P.ps p)), LN P.ps.length (rG P.ps p)]) = T at *
  generalize ((List.range P.ps.length).map fun j => Dat.int (rF P.ps p j)) = Y at *
  generalize dP P = D at *
  simp [endC, retC, outA_eq, takeL, giveL, lendOf, e1, e2, e3, e4, f1, f2, at0]
/-- a way from p to q over what is known -/
theorem way_of (P : List Q4) (hN : (P.map pos).Nodup) (p q : Nat) (hp : p < P.length) (hq : q < P.length) : ∃ L, Way p (rG P p) (q :: L) ∧ (q :: L).Nodup ∧ (∀ r ∈ q :: L, r < P.length) ∧ sumW (wR P) (q :: L) = rF P p q ∧ L.length < P.length := by
  have hw : ∀ i j, i < P.length → j < P.length → 0 ≤ wR P i j := fun i j hi hj => wR_pos hN hi hj
  have D := run_DI hp hw (by simp [wR]) (P.length - 1)
  have hc := run_cnt (w := wR P) hp (P.length - 1) (by omega)
  have hqS := cnt_zero (S := (runR (wR P) P.length p (P.length - 1)).S) (k := P.length) (by omega) q hq
  obtain ⟨S1, S2, hS⟩ := List.append_of_mem hqS
  obtain ⟨L, w1, w2, w3, w4⟩ := way_ex D S1.length q S1 S2 rfl hS
  have hlt : ∀ r ∈ L, r < P.length := fun r hr => D.lt r (by rw [hS]; exact List.mem_append_left _ (w3 r hr))
  refine ⟨L, w1, w2, fun r hr => ?_, w4, ?_⟩
  · rcases List.mem_cons.mp hr with h | h
    · rw [h]; exact hq
    · exact hlt r h
  · have h1 : (q :: L).length ≤ (List.range P.length).length := by
      refine nodup_le w2 fun x hx => ?_
      rcases List.mem_cons.mp hx with h | h
      · simp [h, hq]
      · simpa using hlt x h
    simp at h1
    omega
where
  nodup_le : ∀ {A B : List Nat}, A.Nodup → (∀ x ∈ A, x ∈ B) → A.length ≤ B.length
    | [], B, _, _ => Nat.zero_le _
    | a :: A, B, h, hs => by
      obtain ⟨h1, h2⟩ := List.nodup_cons.mp h
      have := nodup_le (A := A) (B := B.erase a) h2 fun x hx => (List.mem_erase_of_ne (fun e => h1 (by rw [← e]; exact hx))).mpr (hs x (List.mem_cons_of_mem _ hx))
      rw [List.length_erase_of_mem (hs a (by simp))] at this
      have hb : 0 < B.length := List.length_pos_of_mem (hs a (by simp))
      simp
      omega
theorem k_lc (n : Nat) (P : Pl) (hN : (P.ps.map pos).Nodup) (hl : P.ps.length ≤ 900) (p q : Nat) (hp : p < P.ps.length) (hq : q < P.ps.length) :
    ∃ L, Way p (rG P.ps p) (q :: L) ∧ (q :: L).Nodup ∧ (∀ r ∈ q :: L, r < P.ps.length) ∧ sumW (wR P.ps) (q :: L) = rF P.ps p q ∧ L.length < P.ps.length ∧
    Cn (n + 3) 19 [.d (dP P), .d (.int (p : Int)), .d (.int (q : Int))] = .ok (.d (chD (q :: L).reverse)) [.d (dP P), .d (.int (p : Int)), .d (.int (q : Int))] := by
  obtain ⟨L, w1, w2, w3, w4, w5⟩ := way_of P.ps hN p q hp hq
  refine ⟨L, w1, w2, w3, w4, w5, ?_⟩
  show runFn (Cn (n + 2)) FU f_least_chain _ = _
  have e1 := c_peg_ok (n + 1) P.c P.r P.h P.ps P.gs p (by omega) (by omega)
  have e2 := c_peg_ok (n + 1) P.c P.r P.h P.ps P.gs q (by omega) (by omega)
  have e3 := k_rows n P.c P.r P.h P.ps P.gs hN (by omega)
  have e4 := c_rooms n P.ps hN hl p hp
  have e5 := c_chain (n + 1) P.ps.length p (rG P.ps p) q L w1 w3 (by omega)
  rw [plan_eq] at e1 e2 e3
  have eP : (⟨P.c, P.r, P.h, P.ps, P.gs⟩ : Pl) = P := rfl
  rw [eP] at e1 e2 e3
  have f1 : (PV.tup [LO P.ps.length (fO (rF P.ps p)), LN P.ps.length (rG P.ps p)]).frz = .tup [(LO P.ps.length (fO (rF P.ps p))).frz, LD P.ps.length (rG P.ps p)] := by
    show Dat.tup [(LO P.ps.length (fO (rF P.ps p))).frz, (LN P.ps.length (rG P.ps p)).frz] = _
    congr 3
    show Dat.lst (frzs _) = _
    unfold pl
    rw [frzs_mapG]
    rfl
  have ⟨R0, hR0⟩ : ∃ L, ROWS P.ps = .lst L := ⟨_, rfl⟩
  rw [hR0] at e3 e4
  simp only [runFn, f_least_chain, b_least_chain]
  generalize LD P.ps.length (rG P.ps p) = X at *
  generalize hT : (PV.tup [LO P.ps.length (fO (rF P.ps p)), LN P.ps.length (rG P.ps p)]) = T at *
  generalize (LO P.ps.length (fO (rF P.ps p))).frz = Y at *
  generalize chD (q :: L).reverse = Z at *
  generalize dP P = D at *
  simp [endC, retC, outA_eq, takeL, giveL, lendOf, e1, e2, e3, e4, f1, e5, at1]
end Law

/-! K14h: chains told: faults, by the program and by the law. -/
namespace Law
open PySem L2 R
open PyProof.Rows hiding St
def isP (m : Nat) : Dat → Option Int
  | .int i => if 0 ≤ i ∧ i < m then some i else none
  | _ => none
def isW : Dat → Bool
  | .int _ => true
  | _ => false
theorem k_isint (n : Nat) (x : Dat) : Cn (n + 1) 9 [.d x] = .ok (.d (.bl (isW x))) [.d x] := by
  show runFn (Cn n) FU f_is_integer _ = _
  simp only [runFn, f_is_integer, b_is_integer]
  cases x <;> simp [endC, retC, outA_eq, isW, tyD]
theorem k_whole (n : Nat) (x : Dat) : Cn (n + 1) 23 [.d x] = .ok (.d (.bl (isW x))) [.d x] := by
  show runFn (Cn n) FU f__law_whole _ = _
  simp only [runFn, f__law_whole, b__law_whole]
  cases x <;> simp [endC, retC, outA_eq, isW, tyD]
theorem isP_W {m : Nat} {x : Dat} (h : isW x = false) : isP m x = none := by
  cases x <;> first | rfl | cases h
theorem k_within (n m : Nat) (x : Dat) : Cn (n + 2) 10 [.d x, .d (.int 0), .d (.int ((m : Int) - 1))] = .ok (.d (.bl (isP m x).isSome)) [.d x, .d (.int 0), .d (.int ((m : Int) - 1))] := by
  show runFn (Cn (n + 1)) FU f_integer_within _ = _
  have e := k_isint n x
  simp only [runFn, f_integer_within, b_integer_within]
  cases hw : isW x with
  | false =>
    rw [hw] at e
    rw [isP_W hw]
    simp [endC, retC, outA_eq, takeL, giveL, lendOf, e]
  | true =>
    rw [hw] at e
    cases x with
    | int i =>
      by_cases h0 : i < 0
      · have h0' : ¬ 0 ≤ i := by omega
        simp [endC, retC, outA_eq, takeL, giveL, lendOf, e, isP, h0, h0']
      · have h0' : 0 ≤ i := by omega
        by_cases h1 : (m : Int) - 1 < i
        · have h2 : ¬ i < m := by omega
          simp [endC, retC, outA_eq, takeL, giveL, lendOf, e, isP, h0, h0', h1, h2]
        · have h2 : i < m := by omega
          simp [endC, retC, outA_eq, takeL, giveL, lendOf, e, isP, h0, h0', h1, h2]
    | _ => cases hw
theorem noDics_i (L : List Int) : noDics (L.map .int) = true := noDics_map Dat.int (fun _ => rfl) L
theorem mem_i (L : List Int) (i : Int) : cmpD .mem (.int i) (.tup (L.map .int)) = some (decide (i ∈ L)) := by
  have h2 := shaped_ints L
  have h3 : (L.map Dat.int).any (fun z => PyData.eqv z.py (Dat.int i).py) = decide (i ∈ L) := by
    rw [List.any_map]
    clear h2
    induction L with
    | nil => rfl
    | cons s L ih =>
      rw [List.any_cons, ih]
      have : PyData.eqv (Dat.int s).py (Dat.int i).py = decide (s = i) := rfl
      simp only [Function.comp]
      rw [this]
      by_cases h : s = i
      · simp [h]
      · have h' : ¬ i = s := fun z => h z.symm
        simp [h, h']
  show memD (.int i) (L.map .int) = _
  unfold memD
  have h0 : (noDic (.int i) && noDics (L.map .int) && eqOk (.int i) && eqOk (.lst (L.map .int))) = true := by
    rw [noDics_i, h2]
    rfl
  rw [if_pos h0, h3]
/-- the first fault -/
def flt (m : Nat) : List Int → List Dat → Option (Nat × Str)
  | _, [] => none
  | seen, x :: xs => match isP m x with
    | none => some (seen.length, "peg")
    | some i => if i ∈ seen then some (seen.length, "twice") else flt m (seen ++ [i]) xs
theorem isP_some {m : Nat} {x : Dat} {i : Int} (h : isP m x = some i) : x = .int i ∧ 0 ≤ i ∧ i < m := by
  cases x with
  | int j =>
    simp only [isP] at h
    by_cases hh : 0 ≤ j ∧ j < m
    · rw [if_pos hh] at h
      cases h
      exact ⟨rfl, hh⟩
    · rw [if_neg hh] at h
      cases h
  | _ => cases h
theorem cut_take (A : List Dat) (B : List Dat) : R.cutD (A ++ B) none (some (A.length : Int)) = A := by
  unfold R.cutD
  have e1 : HT.sIx (A ++ B).length (A ++ B).length (some (A.length : Int)) = min A.length (A ++ B).length := HT.sIx_nat _ _ _
  rw [e1, HT.sIx_none]
  simp
theorem sl_seen (seen : List Int) (xs : List Dat) : slD (.tup (seen.map .int ++ xs)) none (some (seen.length : Int)) = some (.d (.tup (seen.map .int))) := by
  show some (PV.d (.tup (R.cutD _ none _))) = _
  have := cut_take (seen.map .int) xs
  rw [List.length_map] at this
  rw [this]
def bF : List S := [
    .ite (.not (.call 10 [.lend 3, (.lit (.int 0)), (.bin .sub (.bi .len [(.idxv 0 (.lit (.int 3)))]) (.lit (.int 1)))])) [
      .ret (.tup [(.get 2), (.lit (.str "peg"))])] [],
    .ite (.cmp .mem (.get 3) (.slv 1 none (some (.get 2)))) [
      .ret (.tup [(.get 2), (.lit (.str "twice"))])] []]
def ans (f : Option (Nat × Str)) (σ : Sto) : FR := match f with
  | none => .nx σ
  | some (k, w) => .ret (.d (.tup [.int (k : Int), .str w])) σ
theorem f_loop (n : Nat) (P : Pl) : ∀ (xs : List Dat) (seen : List Int) (x2 x3 : Option PV), ∃ y2 y3,
    seqL (turnF (Cn (n + 2)) FU (.t [(.n 2), (.n 3)]) bF) (enumD seen.length xs) [some (.d (dP P)), some (.d (.tup (seen.map .int ++ xs))), x2, x3] =
      ans (flt P.ps.length seen xs) [some (.d (dP P)), some (.d (.tup (seen.map .int ++ xs))), y2, y3]
  | [], seen, x2, x3 => ⟨x2, x3, rfl⟩
  | x :: xs, seen, x2, x3 => by
    have p3 := idP3 P
    have hn : (P.ps.map d4).length = P.ps.length := List.length_map _
    have ew := k_within n P.ps.length x
    have esl := sl_seen seen (x :: xs)
    show ∃ y2 y3, seqL _ (.tup [.int (seen.length : Nat), x] :: enumD (seen.length + 1) xs) _ = _
    rw [seqL, flt]
    cases hx : isP P.ps.length x with
    | none =>
      rw [hx] at ew
      refine ⟨some (.d (.int (seen.length : Nat))), some (.d x), ?_⟩
      generalize seen.map Dat.int ++ x :: xs = XS at *
      generalize P.ps.map d4 = PS at *
      generalize dP P = D at *
      simp only [Option.isSome_none] at ew
      simp [turnF, bF, takeL, giveL, lendOf, p3, hn, ew, ans]
    | some i =>
      rw [hx] at ew
      simp only [Option.isSome_some] at ew
      have hxi := (isP_some hx).1
      have em := mem_i seen i
      rw [← hxi] at em
      by_cases hi : i ∈ seen
      · simp only [if_pos hi]
        rw [decide_eq_true hi] at em
        refine ⟨some (.d (.int (seen.length : Nat))), some (.d x), ?_⟩
        generalize seen.map Dat.int ++ x :: xs = XS at *
        generalize seen.map Dat.int = SS at *
        generalize P.ps.map d4 = PS at *
        generalize dP P = D at *
        simp [turnF, bF, takeL, giveL, lendOf, p3, hn, ew, ans, esl, em]
      · simp only [if_neg hi]
        rw [decide_eq_false hi] at em
        obtain ⟨y2, y3, ih⟩ := f_loop n P xs (seen ++ [i]) (some (.d (.int (seen.length : Nat)))) (some (.d x))
        have el : (seen ++ [i]).length = seen.length + 1 := by simp
        have eX : (seen ++ [i]).map Dat.int ++ xs = seen.map Dat.int ++ x :: xs := by simp [hxi]
        rw [el, eX] at ih
        refine ⟨y2, y3, ?_⟩
        generalize seen.map Dat.int ++ x :: xs = XS at *
        have et : turnF (Cn (n + 2)) FU (.t [(.n 2), (.n 3)]) bF (.tup [.int (seen.length : Nat), x]) [some (.d (dP P)), some (.d (.tup XS)), x2, x3] = .nx [some (.d (dP P)), some (.d (.tup XS)), some (.d (.int (seen.length : Nat))), some (.d x)] := by
          generalize seen.map Dat.int = SS at *
          generalize P.ps.map d4 = PS at *
          generalize dP P = D at *
          simp [turnF, bF, takeL, giveL, lendOf, p3, hn, ew, ans, esl, em]
        rw [et]
        exact ih
def oF : Option (Nat × Str) → Dat
  | none => .non
  | some (k, w) => .tup [.int (k : Int), .str w]
theorem k_fault (n : Nat) (P : Pl) (x : Dat) (xs : List Dat) : Cn (n + 3) 11 [.d (dP P), .d (.tup (x :: xs))] = .ok (.d (oF (flt P.ps.length [] (x :: xs)))) [.d (dP P), .d (.tup (x :: xs))] := by
  show runFn (Cn (n + 2)) FU f_chain_fault _ = _
  have hb : f_chain_fault = ⟨2, 4, [], [.ite (.or (.not (.isi (.vw 1) [.tuple])) (.cmp .eq (.bi .len [(.vw 1)]) (.lit (.int 0)))) [
    .ret (.tup [(.neg (.lit (.int 1))), (.lit (.str "shape"))])] [], .for_ .enum [(.get 1)] (.t [(.n 2), (.n 3)]) bF, .ret (.lit .non)]⟩ := rfl
  obtain ⟨y2, y3, e⟩ := f_loop n P (x :: xs) [] none none
  have hi : itsOf .enum [.tup (x :: xs)] = some (.l (enumD 0 (x :: xs))) := rfl
  have h0 : ¬ (x :: xs) = [] := by simp
  rw [hb]
  simp only [runFn]
  simp only [List.length_nil, List.map_nil, List.nil_append] at e
  generalize x :: xs = X at *
  generalize dP P = D at *
  cases hf : flt P.ps.length [] X with
  | none =>
    rw [hf] at e
    simp only [ans] at e
    simp [endC, retC, outA_eq, h0, hi, e, oF]
  | some q =>
    obtain ⟨k, w⟩ := q
    rw [hf] at e
    simp only [ans] at e
    simp [endC, retC, outA_eq, h0, hi, e, oF]
theorem k_shape0 (n : Nat) (P : Pl) : Cn (n + 1) 11 [.d (dP P), .d (.tup [])] = .ok (.d (.tup [.int (-1), .str "shape"])) [.d (dP P), .d (.tup [])] := by
  show runFn (Cn n) FU f_chain_fault _ = _
  generalize dP P = D
  simp [runFn, f_chain_fault, b_chain_fault, endC, retC, outA_eq]
theorem k_shape (n : Nat) (P : Pl) (x : Dat) (h : tyD .tuple x = false) : Cn (n + 1) 11 [.d (dP P), .d x] = .ok (.d (.tup [.int (-1), .str "shape"])) [.d (dP P), .d x] := by
  show runFn (Cn n) FU f_chain_fault _ = _
  generalize dP P = D
  simp [runFn, f_chain_fault, b_chain_fault, endC, retC, outA_eq, h]
/-- what is due of a thing -/
def due (m : Nat) : Dat → Dat
  | .tup [] => .tup [.str "bad", .int (-1), .str "shape"]
  | .tup (x :: xs) => match flt m [] (x :: xs) with
    | none => .tup [.str "told", .int ((xs.length : Int) + 1)]
    | some (k, w) => .tup [.str "bad", .int (k : Int), .str w]
  | _ => .tup [.str "bad", .int (-1), .str "shape"]
theorem due_shape {m : Nat} {x : Dat} (h : tyD .tuple x = false) : due m x = .tup [.str "bad", .int (-1), .str "shape"] := by
  cases x <;> first | rfl | cases h
theorem k_told (n : Nat) (P : Pl) (t : Dat) : Cn (n + 5) 31 [.d (dP P), .d t] = .ok (.d (due P.ps.length t)) [.d (dP P), .d t] := by
  have bad : ∀ (k : Int) (w : Str), Cn (n + 3) 11 [.d (dP P), .d t] = .ok (.d (.tup [.int k, .str w])) [.d (dP P), .d t] → Cn (n + 5) 31 [.d (dP P), .d t] = .ok (.d (.tup [.str "bad", .int k, .str w])) [.d (dP P), .d t] := fun k w e => by
    have e2 : Cn (n + 4) 12 [.d (dP P), .d t] = .exc "BadChain" [("at", .int k), ("word", .str w)] [.d (dP P), .d t] := by
      show runFn (Cn (n + 3)) FU f_check_chain _ = _
      generalize dP P = D at *
      simp [runFn, f_check_chain, b_check_chain, endC, retC, outA_eq, takeL, giveL, lendOf, e, at0, at1]
    show runFn (Cn (n + 4)) FU f__law_told _ = _
    have hl : List.lookup ("BadChain" : Str) [(("BadChain" : Str), true), ("BadStep", false)] = some true := by decide +kernel
    have h1 : List.lookup ("at" : Str) [(("at" : Str), Dat.int k), ("word", .str w)] = some (.int k) := by
      have : (("at" : Str) == "at") = true := by decide +kernel
      rw [List.lookup, this]
    have h2 : List.lookup ("word" : Str) [(("at" : Str), Dat.int k), ("word", .str w)] = some (.str w) := by
      have : (("word" : Str) == "at") = false := by decide +kernel
      have t2 : (("word" : Str) == "word") = true := by decide +kernel
      rw [List.lookup, this]
      simp only
      rw [List.lookup, t2]
    generalize dP P = D at *
    simp [runFn, f__law_told, b__law_told, endC, retC, outA_eq, takeL, giveL, lendOf, e2, hl, evalHG, evalH, evalHs, h1, h2]
  by_cases ht : tyD .tuple t = false
  · rw [due_shape ht]
    exact bad _ _ (k_shape (n + 2) P t ht)
  · cases t with
    | tup xs =>
      cases xs with
      | nil => exact bad _ _ (k_shape0 (n + 2) P)
      | cons x xs =>
        have e := k_fault n P x xs
        unfold due
        cases hf : flt P.ps.length [] (x :: xs) with
        | some q =>
          obtain ⟨k, w⟩ := q
          rw [hf] at e
          simp only [hf]
          exact bad _ _ e
        | none =>
          rw [hf] at e
          simp only [oF] at e
          simp only [hf]
          have e2 : Cn (n + 4) 12 [.d (dP P), .d (.tup (x :: xs))] = .ok (.d (.int ((xs.length : Int) + 1))) [.d (dP P), .d (.tup (x :: xs))] := by
            show runFn (Cn (n + 3)) FU f_check_chain _ = _
            have hl : ((x :: xs).length : Int) = (xs.length : Int) + 1 := by simp
            generalize x :: xs = X at *
            generalize dP P = D at *
            simp [runFn, f_check_chain, b_check_chain, endC, retC, outA_eq, takeL, giveL, lendOf, e, hl]
          show runFn (Cn (n + 4)) FU f__law_told _ = _
          generalize x :: xs = X at *
          generalize dP P = D at *
          simp [runFn, f__law_told, b__law_told, endC, retC, outA_eq, takeL, giveL, lendOf, e2]
    | _ => exact absurd rfl ht
/-! ### the law's own -/
def bG : List S := [
    .ite (.or (.not (.call 23 [(.idxv 1 (.get 2))])) (.not (.chain .le .lt (.lit (.int 0)) (.idxv 1 (.get 2)) (.bi .len [(.idxv 0 (.lit (.int 3)))])))) [
      .ret (.tup [(.lit (.str "bad")), (.get 2), (.lit (.str "peg"))])] [],
    .ite (.cmp .mem (.idxv 1 (.get 2)) (.slv 1 none (some (.get 2)))) [
      .ret (.tup [(.lit (.str "bad")), (.get 2), (.lit (.str "twice"))])] []]
def ansG (f : Option (Nat × Str)) (σ : Sto) : FR := match f with
  | none => .nx σ
  | some (k, w) => .ret (.d (.tup [.str "bad", .int (k : Int), .str w])) σ
theorem g_loop (n : Nat) (P : Pl) : ∀ (xs : List Dat) (seen : List Int) (x2 : Option PV), ∃ y2,
    seqR (turnF (Cn (n + 1)) FU (.n 2) bG) 1 xs.length (seen.length : Int) [some (.d (dP P)), some (.d (.tup (seen.map .int ++ xs))), x2] =
      ansG (flt P.ps.length seen xs) [some (.d (dP P)), some (.d (.tup (seen.map .int ++ xs))), y2]
  | [], seen, x2 => ⟨x2, rfl⟩
  | x :: xs, seen, x2 => by
    have p3 := idP3 P
    have hn : (P.ps.map d4).length = P.ps.length := List.length_map _
    have ew := k_whole n x
    have esl := sl_seen seen (x :: xs)
    have ex : L2.atI (seen.map Dat.int ++ x :: xs) (seen.length : Int) = some x := by
      rw [R.atI_nat (by simp)]
      simp
    show ∃ y2, seqR _ 1 (xs.length + 1) _ _ = _
    rw [seqR, flt]
    cases hx : isP P.ps.length x with
    | none =>
      refine ⟨some (.d (.int (seen.length : Nat))), ?_⟩
      cases hw : isW x with
      | false =>
        rw [hw] at ew
        generalize seen.map Dat.int ++ x :: xs = XS at *
        generalize P.ps.map d4 = PS at *
        generalize dP P = D at *
        simp [turnF, bG, takeL, giveL, lendOf, p3, hn, ew, ansG, ex]
      | true =>
        cases x with
        | int i =>
          rw [hw] at ew
          have hni : ¬ (0 ≤ i ∧ i < (P.ps.length : Int)) := fun z => by
            simp only [isP] at hx
            rw [if_pos z] at hx
            cases hx
          generalize seen.map Dat.int ++ Dat.int i :: xs = XS at *
          by_cases h0 : 0 ≤ i
          · have h1 : ¬ i < (P.ps.length : Int) := fun z => hni ⟨h0, z⟩
            have hz : ¬ i < 0 := by omega
            generalize P.ps.map d4 = PS at *
            generalize dP P = D at *
            simp [turnF, bG, takeL, giveL, lendOf, p3, hn, ew, ansG, ex, h0, h1, hz]
          · have hz : i < 0 := by omega
            generalize P.ps.map d4 = PS at *
            generalize dP P = D at *
            simp [turnF, bG, takeL, giveL, lendOf, p3, hn, ew, ansG, ex, h0, hz]
        | _ => cases hw
    | some i =>
      obtain ⟨hxi, h0, h1⟩ := isP_some hx
      have em := mem_i seen i
      have hw : isW x = true := by rw [hxi]; rfl
      rw [hw] at ew
      have hz : ¬ i < 0 := by omega
      subst hxi
      by_cases hi : i ∈ seen
      · simp only [if_pos hi]
        rw [decide_eq_true hi] at em
        refine ⟨some (.d (.int (seen.length : Nat))), ?_⟩
        generalize seen.map Dat.int ++ Dat.int i :: xs = XS at *
        generalize seen.map Dat.int = SS at *
        generalize P.ps.map d4 = PS at *
        generalize dP P = D at *
        simp [turnF, bG, takeL, giveL, lendOf, p3, hn, ew, ansG, esl, em, ex, h0, h1, hz]
      · simp only [if_neg hi]
        rw [decide_eq_false hi] at em
        obtain ⟨y2, ih⟩ := g_loop n P xs (seen ++ [i]) (some (.d (.int (seen.length : Nat))))
        have el : ((seen ++ [i]).length : Int) = (seen.length : Int) + 1 := by simp
        have eX : (seen ++ [i]).map Dat.int ++ xs = seen.map Dat.int ++ Dat.int i :: xs := by simp
        rw [el, eX] at ih
        refine ⟨y2, ?_⟩
        generalize seen.map Dat.int ++ Dat.int i :: xs = XS at *
        have et : turnF (Cn (n + 1)) FU (.n 2) bG (.int (seen.length : Nat)) [some (.d (dP P)), some (.d (.tup XS)), x2] = .nx [some (.d (dP P)), some (.d (.tup XS)), some (.d (.int (seen.length : Nat)))] := by
          generalize seen.map Dat.int = SS at *
          generalize P.ps.map d4 = PS at *
          generalize dP P = D at *
          simp [turnF, bG, takeL, giveL, lendOf, p3, hn, ew, ansG, esl, em, ex, h0, h1, hz]
        rw [et]
        exact ih
theorem k_due (n : Nat) (P : Pl) (t : Dat) (hl : ∀ xs, t = .tup xs → xs.length ≤ 1000) : Cn (n + 2) 30 [.d (dP P), .d t] = .ok (.d (due P.ps.length t)) [.d (dP P), .d t] := by
  show runFn (Cn (n + 1)) FU f__law_due _ = _
  have hb : f__law_due = ⟨2, 3, [], [.ite (.or (.not (.isi (.vw 1) [.tuple])) (.cmp .eq (.bi .len [(.vw 1)]) (.lit (.int 0)))) [
    .ret (.tup [(.lit (.str "bad")), (.neg (.lit (.int 1))), (.lit (.str "shape"))])] [],
    .for_ .range [(.bi .len [(.vw 1)])] (.n 2) bG, .ret (.tup [(.lit (.str "told")), (.bi .len [(.vw 1)])])]⟩ := rfl
  rw [hb]
  simp only [runFn]
  by_cases ht : tyD .tuple t = false
  · rw [due_shape ht]
    generalize dP P = D
    simp [endC, retC, outA_eq, ht]
  · cases t with
    | tup xs =>
      cases xs with
      | nil =>
        generalize dP P = D
        simp [endC, retC, outA_eq, due]
      | cons x xs =>
        obtain ⟨y2, e⟩ := g_loop n P (x :: xs) [] none
        have hll := hl (x :: xs) rfl
        have hr := its_rangeN (n := (x :: xs).length) (by omega)
        have h0 : ¬ (x :: xs) = [] := by simp
        have hle : ((x :: xs).length : Int) = (xs.length : Int) + 1 := by simp
        have hdue : due P.ps.length (.tup (x :: xs)) = (match flt P.ps.length [] (x :: xs) with
          | none => .tup [.str "told", .int ((xs.length : Int) + 1)]
          | some (k, w) => .tup [.str "bad", .int (k : Int), .str w]) := rfl
        rw [hdue]
        clear hdue
        simp only [List.length_nil, List.map_nil, List.nil_append] at e
        rw [show ((0 : Nat) : Int) = 0 from rfl] at e
        generalize x :: xs = X at *
        generalize dP P = D at *
        cases hf : flt P.ps.length [] X with
        | none =>
          rw [hf] at e
          simp only [ansG] at e
          simp only
          rw [← hle]
          simp [endC, retC, outA_eq, h0, hr, e]
        | some q =>
          obtain ⟨k, w⟩ := q
          rw [hf] at e
          simp only [ansG] at e
          simp [endC, retC, outA_eq, h0, hr, e]
    | _ => exact absurd rfl ht
end Law

/-! K14i: a chain's rooms, whether it is short, a chain that is drawn. -/
namespace Law
open PySem L2 R
open PyProof.Rows hiding St
/-- a chain: pegs of the plan, no two alike -/
structure Ch (m : Nat) (T : List Nat) : Prop where
  nd : T.Nodup
  lt : ∀ r ∈ T, r < m
  ne : 0 < T.length
theorem flt_ok (m : Nat) : ∀ (T S : List Nat), (S ++ T).Nodup → (∀ r ∈ T, r < m) → flt m (nS S) ((nS T).map .int) = none
  | [], S, _, _ => rfl
  | t :: T, S, hn, hl => by
    have h1 : t < m := hl t (by simp)
    have h2 : isP m (.int (t : Int)) = some (t : Int) := by
      simp only [isP]
      rw [if_pos ⟨by omega, by omega⟩]
    have h3 : (t : Int) ∉ nS S := fun z => by
      unfold nS at z
      obtain ⟨s, hs, e⟩ := List.mem_map.mp z
      have : s = t := by omega
      subst this
      exact (List.nodup_append.mp hn).2.2 s hs s (by simp) rfl
    show flt m (nS S) (.int (t : Int) :: (nS T).map .int) = none
    rw [flt, h2]
    simp only
    rw [if_neg h3, ← nS_snoc]
    exact flt_ok m T (S ++ [t]) (by simpa using hn) fun r hr => hl r (List.mem_cons_of_mem _ hr)
theorem due_ok {m : Nat} {T : List Nat} (h : Ch m T) : due m (chD T) = .tup [.str "told", .int (T.length : Int)] := by
  have hf := flt_ok m T [] (by simpa using h.nd) h.lt
  cases T with
  | nil => exact absurd h.ne (by simp)
  | cons t T =>
    have hd : due m (chD (t :: T)) = (match flt m [] ((nS (t :: T)).map .int) with
      | none => .tup [.str "told", .int ((((nS T).map Dat.int).length : Int) + 1)]
      | some (k, w) => .tup [.str "bad", .int (k : Int), .str w]) := rfl
    have hn : nS ([] : List Nat) = [] := rfl
    rw [hn] at hf
    rw [hd, hf]
    simp [nS]
/-! ### its rooms -/
def rsum (ps : List Q4) (T : List Nat) : Int := ((T.zip (T.drop 1)).map fun z => roomI (pg ps z.1) (pg ps z.2)).sum
theorem k_csum (n : Nat) (P : Pl) (T : List Nat) (h : Ch P.ps.length T) (hl : T.length ≤ 1000) : Cn (n + 2) 13 [.d (dP P), .d (chD T)] = .ok (.d (.int (rsum P.ps T))) [.d (dP P), .d (chD T)] := by
  show runFn (Cn (n + 1)) FU f_chain_room _ = _
  have p3 := idP3 P
  obtain ⟨σ', e, z3, z4, rfl⟩ := compL_map (f := turnC (Cn (n + 1)) (.t [(.n 3), (.n 4)]) [] [3, 4] (.call 1 [(.idxv 2 (.get 3)), (.idxv 2 (.get 4))]))
    (P := fun τ => ∃ z3 z4, τ = [some (.d (dP P)), some (.d (chD T)), some (.d (.tup (P.ps.map d4))), z3, z4])
    (fun z : Nat × Nat => .tup [.int (z.1 : Int), .int (z.2 : Int)]) (fun z => .d (.int (roomI (pg P.ps z.1) (pg P.ps z.2)))) (T.zip (T.drop 1)) [some (.d (dP P)), some (.d (chD T)), some (.d (.tup (P.ps.map d4))), none, none] ⟨none, none, rfl⟩ (fun z hz τ ⟨z3, z4, hy⟩ => by
      subst hy
      obtain ⟨a, b⟩ := z
      obtain ⟨ha, hb⟩ := List.of_mem_zip hz
      have ia := at_ps P.ps a (h.lt a ha)
      have ib := at_ps P.ps b (h.lt b (List.mem_of_mem_drop hb))
      have ec := k_room n (pg P.ps a) (pg P.ps b)
      refine ⟨[some (.d (dP P)), some (.d (chD T)), some (.d (.tup (P.ps.map d4))), some (.d (.int (a : Int))), some (.d (.int (b : Int)))], ?_, _, _, rfl⟩
      simp only at ec ⊢
      generalize P.ps.map d4 = PS at *
      generalize dP P = D at *
      generalize chD T = X at *
      generalize d4 (pg P.ps a) = U at *
      generalize d4 (pg P.ps b) = V at *
      simp [turnC, wipeS, noX, takeL, giveL, lendOf, ia, ib, ec]) (le_line (by rw [List.length_zip]; omega))
  have hz : itsOf .zip [chD T, .tup (((nS T).map .int).drop 1)] = some (.l ((T.zip (T.drop 1)).map fun z : Nat × Nat => .tup [.int (z.1 : Int), .int (z.2 : Int)])) := by
    show some (Its.l (zipD ((nS T).map .int) (((nS T).map .int).drop 1))) = _
    unfold nS
    rw [List.map_map, ← List.map_drop, zipD_map]
    rfl
  have hs : slD (chD T) (some 1) none = some (.d (.tup (((nS T).map .int).drop 1))) := sl1 _
  have hm : (T.zip (T.drop 1)).map (fun z => PV.d (.int (roomI (pg P.ps z.1) (pg P.ps z.2)))) = pl (fun z : Nat × Nat => Dat.int (roomI (pg P.ps z.1) (pg P.ps z.2))) (T.zip (T.drop 1)) := rfl
  rw [hm] at e
  have hb := bi_sum (fun z : Nat × Nat => roomI (pg P.ps z.1) (pg P.ps z.2)) (T.zip (T.drop 1))
  simp only [runFn, f_chain_room, b_chain_room]
  unfold rsum
  generalize hDT : ((nS T).map Dat.int).drop 1 = DT at *
  generalize hZZ : T.zip (T.drop 1) = ZZ at *
  generalize (ZZ.map fun z : Nat × Nat => Dat.tup [.int (z.1 : Int), .int (z.2 : Int)]) = Z at *
  generalize P.ps.map d4 = PS at *
  generalize dP P = D at *
  generalize chD T = X at *
  simp [endC, retC, outA_eq, p3, hz, hs, wipeS, e, backS, hb]
theorem k_lsum (n : Nat) (P : Pl) (T : List Nat) (h : Ch P.ps.length T) (hl : T.length ≤ 1000) : Cn (n + 2) 28 [.d (dP P), .d (chD T)] = .ok (.d (.int (rsum P.ps T))) [.d (dP P), .d (chD T)] := by
  show runFn (Cn (n + 1)) FU f__law_sum _ = _
  have p3 := idP3 P
  have hT0 := h.ne
  have hat : ∀ j (hj : j < T.length), idxD (chD T) (.int (j : Int)) = some (.int (T[j] : Int)) := fun j hj => by
    show L2.atI ((nS T).map Dat.int) (j : Int) = _
    rw [at_map Dat.int (nS T) j (by simpa [nS] using hj)]
    simp [nS]
  obtain ⟨σ', e, z2, rfl⟩ := compN_map (f := turnC (Cn (n + 1)) (.n 2) [] [2] (.call 25 [(.idx (.idxv 0 (.lit (.int 3))) (.idxv 1 (.get 2))), (.idx (.idxv 0 (.lit (.int 3))) (.idxv 1 (.bin .add (.get 2) (.lit (.int 1)))))]))
    (P := fun τ => ∃ z2, τ = [some (.d (dP P)), some (.d (chD T)), z2])
    (fun j => .d (.int (roomI (pg P.ps (T.getD j 0)) (pg P.ps (T.getD (j + 1) 0))))) (T.length - 1) [some (.d (dP P)), some (.d (chD T)), none] ⟨none, rfl⟩ (fun j hj τ ⟨z2, hy⟩ => by
      subst hy
      have ha := hat j (by omega)
      have hb := hat (j + 1) (by omega)
      have ea : T.getD j 0 = T[j] := by rw [List.getD_eq_getElem?_getD]; simp [show j < T.length from by omega]
      have eb : T.getD (j + 1) 0 = T[j + 1] := by rw [List.getD_eq_getElem?_getD]; simp [show j + 1 < T.length from by omega]
      have ia := at_ps P.ps T[j] (h.lt _ (List.getElem_mem _))
      have ib := at_ps P.ps T[j + 1] (h.lt _ (List.getElem_mem _))
      have ec := k_lroom n (pg P.ps T[j]) (pg P.ps T[j + 1])
      have ej : ((j + 1 : Nat) : Int) = (j : Int) + 1 := by omega
      rw [ej] at hb
      refine ⟨[some (.d (dP P)), some (.d (chD T)), some (.d (.int (j : Int)))], ?_, _, rfl⟩
      rw [ea, eb]
      generalize T[j] = a at *
      generalize T[j + 1] = b at *
      generalize P.ps.map d4 = PS at *
      generalize dP P = D at *
      generalize chD T = X at *
      generalize d4 (pg P.ps a) = U at *
      generalize d4 (pg P.ps b) = V at *
      simp [turnC, wipeS, noX, takeL, giveL, lendOf, p3, ha, hb, ia, ib, ec]) (le_line (by omega))
  have hm : (List.range (T.length - 1)).map (fun j => PV.d (.int (roomI (pg P.ps (T.getD j 0)) (pg P.ps (T.getD (j + 1) 0))))) = pl (fun z : Nat × Nat => Dat.int (roomI (pg P.ps z.1) (pg P.ps z.2))) (T.zip (T.drop 1)) := by
    unfold pl
    refine List.ext_getElem (by simp) fun i h1 h2 => ?_
    have hi : i < T.length - 1 := by simpa using h1
    simp [show i < T.length from by omega, show i + 1 < T.length from by omega, Nat.add_comm 1 i]
  rw [hm] at e
  have hr := its_rangeN (n := T.length - 1) (by omega)
  have hlen : biD .len [chD T] = some (.d (.int (T.length : Int))) := by
    show some (PV.d (.int (((nS T).map Dat.int).length : Int))) = _
    simp [nS]
  have ei : ((T.length - 1 : Nat) : Int) = (T.length : Int) - 1 := by omega
  rw [ei] at hr
  have hb := bi_sum (fun z : Nat × Nat => roomI (pg P.ps z.1) (pg P.ps z.2)) (T.zip (T.drop 1))
  simp only [runFn, f__law_sum, b__law_sum]
  unfold rsum
  generalize hZZ : T.zip (T.drop 1) = ZZ at *
  generalize dP P = D at *
  generalize chD T = X at *
  simp [endC, retC, outA_eq, hlen, hr, wipeS, e, backS, hb]
/-! ### a chain that is drawn -/
theorem erase_perm {α : Type} : ∀ (L : List α) (k : Nat) (h : k < L.length), (L[k] :: L.eraseIdx k).Perm L
  | x :: L, 0, _ => List.Perm.refl _
  | x :: L, k + 1, h => by
    have hk : k < L.length := by simpa using h
    have ih := erase_perm L k hk
    show (L[k] :: x :: L.eraseIdx k).Perm (x :: L)
    exact (List.Perm.swap x L[k] _).trans (ih.cons x)
theorem erase_map {α β : Type} (f : α → β) : ∀ (L : List α) (k : Nat), (L.map f).eraseIdx k = (L.eraseIdx k).map f
  | [], _ => rfl
  | x :: L, 0 => rfl
  | x :: L, k + 1 => by
    rw [List.map_cons, List.eraseIdx_cons_succ, List.eraseIdx_cons_succ, List.map_cons, erase_map f L k]
theorem popAt_eq (xs : List PV) (i : Int) (h : inR i = true) : methP .popAt (.lst xs) [.d (.int i)] = (seqIndex? i xs.length).bind fun k => (xs[k]?).map fun v => (v, .lst (xs.eraseIdx k)) := by
  rw [methP, if_pos h]
theorem meth_popAt {α : Type} (f : α → Dat) (L : List α) (k : Nat) (hk : k < L.length) (hl : L.length < 1000000) : methP .popAt (.lst (pl f L)) [.d (.int (k : Int))] = some (.d (f L[k]), .lst (pl f (L.eraseIdx k))) := by
  have h1 : inR (k : Int) = true := inR_mk (by omega) (by omega)
  have h2 : ¬ (k : Int) < 0 := by omega
  have h3 : seqIndex? (k : Int) (pl f L).length = some k := by
    simp [seqIndex?, h2, hk]
  rw [popAt_eq _ _ h1, h3]
  have h4 : (pl f L)[k]? = some (.d (f L[k])) := by simp [pl, hk]
  have h5 : (pl f L).eraseIdx k = pl f (L.eraseIdx k) := by unfold pl; exact erase_map _ L k
  simp [h4, h5]
def bD : List S := [.expr (.meth .append 4 [(.meth .popAt 3 [(.call 21 [.lend 0, (.bi .len [(.vw 3)])])])])]
def fN (k : Nat) : Dat := .int (k : Int)
theorem pl_nS (S : List Nat) : pl Dat.int (nS S) = pl fN S := by
  unfold pl nS fN
  rw [List.map_map]
  rfl
theorem d_turn (n : Nat) (L : List Int) (m : Nat) (hm : m ≤ 1000) (R0 C : List Nat) (h0 : 0 < R0.length) (hp : (C ++ R0).Perm (List.range m)) (k : Int) (a1 a2 x5 : Option PV) : ∃ L' R1 C1,
    turnF (Cn (n + 1)) FU (.n 5) bD (.int k) [some (.lst (pl .int L)), a1, a2, some (.lst (pl fN R0)), some (.lst (pl fN C)), x5] =
      .nx [some (.lst (pl .int L')), a1, a2, some (.lst (pl fN R1)), some (.lst (pl fN C1)), some (.d (.int k))] ∧ R1.length + 1 = R0.length ∧ C1.length = C.length + 1 ∧ (C1 ++ R1).Perm (List.range m) := by
  obtain ⟨r, L', e, hr1, hr2⟩ := c_take n L (R0.length : Int)
  obtain ⟨r0, rl⟩ : 0 ≤ r ∧ r < (R0.length : Int) := by
    by_cases h2 : (R0.length : Int) < 2
    · rw [hr1 h2]; omega
    · exact hr2 (by omega)
  obtain ⟨i, rfl⟩ := Int.eq_ofNat_of_zero_le r0
  have hi : i < R0.length := by omega
  have hlen := hp.length_eq
  rw [List.length_append, List.length_range] at hlen
  have hpop := meth_popAt fN R0 i hi (by omega)
  have hpush := meth_push fN C (lt_line (by omega)) R0[i]
  refine ⟨L', R0.eraseIdx i, C ++ [R0[i]], ?_, by rw [List.length_eraseIdx]; simp [hi]; omega, by simp, ?_⟩
  · generalize R0.eraseIdx i = R1 at *
    generalize R0[i] = v at *
    generalize C ++ [v] = C1 at *
    have hl2 : (R0.map fN).length = R0.length := List.length_map _
    simp [turnF, bD, takeL, giveL, lendOf, e, hpop, hpush]
  · have := erase_perm R0 i hi
    have h2 : (C ++ [R0[i]] ++ R0.eraseIdx i).Perm (C ++ R0) := by
      rw [List.append_assoc]
      exact this.append_left C
    exact h2.trans hp
theorem k_chain (n : Nat) (L : List Int) (m s : Nat) (hm : m ≤ 1000) (hm0 : 0 < m) (hs : 0 < s) : ∃ L' T, Cn (n + 2) 35 [.lst (pl .int L), .d (.int (m : Int)), .d (.int (s : Int))] = .ok (.d (chD T)) [.lst (pl .int L'), .d (.int (m : Int)), .d (.int (s : Int))] ∧ Ch m T ∧ T.length ≤ m := by
  obtain ⟨σ', e, L', R1, C1, y5, hR, hC, hp, rfl⟩ := seqN_inv (f := turnF (Cn (n + 1)) FU (.n 5) bD)
    (fun k τ => ∃ L' R1 C1 y5, R1.length + k = m ∧ C1.length = k ∧ (C1 ++ R1).Perm (List.range m) ∧ τ = [some (.lst (pl .int L')), some (.d (.int (m : Int))), some (.d (.int (s : Int))), some (.lst (pl fN R1)), some (.lst (pl fN C1)), y5]) (min m s) 0
    [some (.lst (pl .int L)), some (.d (.int (m : Int))), some (.d (.int (s : Int))), some (.lst (pl fN (List.range m))), some (.lst (pl fN [])), none] ⟨L, List.range m, [], none, by simp, rfl, by simp, rfl⟩ fun j τ _ hj ⟨L', R1, C1, y5, hR, hC, hp, hy⟩ => by
      subst hy
      obtain ⟨L2, R2, C2, e, h1, h2, h3⟩ := d_turn n L' m hm R1 C1 (by omega) hp j (some (.d (.int (m : Int)))) (some (.d (.int (s : Int)))) y5
      exact ⟨_, .inl e, L2, R2, C2, _, by omega, by omega, h3, rfl⟩
  rw [show ((0 : Nat) : Int) = 0 from rfl] at e
  have hnd : (C1 ++ R1).Nodup := hp.nodup_iff.mpr List.nodup_range
  refine ⟨L', C1, ?_, ⟨(List.nodup_append.mp hnd).1, fun r hr => by
    have := hp.mem_iff.mp (List.mem_append_left R1 hr)
    simpa using this, by omega⟩, by omega⟩
  show runFn (Cn (n + 1)) FU f__law_chain _ = _
  have hb : f__law_chain = ⟨3, 6, [], [.set 3 (.rng false [(.get 1)]), .set 4 (.lst []), .for_ .range [(.bi .min2 [(.get 1), (.get 2)])] (.n 5) bD, .ret (.bi .tuple [(.vw 4)])]⟩ := rfl
  have hrng : rngP false [.int (m : Int)] = some (.lst (pl fN (List.range m))) := by
    have h1 : R.inR (m : Int) = true := R.inR_mk (by omega) (by omega)
    have h2 : R.inR 0 = true := rfl
    have h3 : ((m : Int) - 0).toNat = m := by omega
    show (if R.inR 0 && R.inR (m : Int) && decide (((m : Int) - 0).toNat ≤ 16777216) then _ else none) = _
    rw [h1, h2, h3]
    have h4 : decide (m ≤ 16777216) = true := decide_eq_true (by omega)
    rw [h4]
    simp only [Bool.and_self, if_true]
    congr 1
    show PV.lst ((((List.range m).map fun i => Dat.int (0 + ((i : Nat) : Int)))).map .d) = _
    rw [List.map_map]
    unfold pl fN
    congr 1
    refine List.map_congr_left fun i _ => ?_
    simp
  have hmin : min (m : Int) (s : Int) = ((min m s : Nat) : Int) := by omega
  have hr := its_rangeN (n := min m s) (by omega)
  have hch : chD C1 = .tup (C1.map fN) := by
    unfold chD nS fN
    rw [List.map_map]
    rfl
  rw [hb]
  simp only [runFn]
  rw [hch]
  have e0 : (PV.lst [] : PV) = .lst (pl fN []) := rfl
  generalize hX : pl fN (List.range m) = X at *
  rw [← hmin] at hr
  simp [endC, retC, outA_eq, hrng, e0, hr, e]
/-! ### whether it is short -/
theorem at_last (L : List Dat) (x : Dat) : L2.atI (L ++ [x]) (-1) = some x := by
  unfold L2.atI L2.ixN
  have h1 : ¬ ((0 : Int) ≤ -1) := by omega
  have h2 : (1 : Int) ≤ (L.length : Int) + 1 := by omega
  have h3 : (-1 + ((L.length : Int) + 1)).toNat = L.length := by omega
  simp [h1, h2, h3]
end Law

/-! K14j: whether a chain is short; looks at chains; things; what is told of pegs. -/
namespace Law
open PySem L2 R
open PyProof.Rows hiding St
def bnd (P : Pl) (k : Nat) : Int × Int := bounds P.c P.h P.gs (pg P.ps k)
def BL (P : Pl) : PV := .lst (pl pr (P.ps.map (bounds P.c P.h P.gs)))
theorem ix_BL (P : Pl) (k : Nat) (hk : k < P.ps.length) : idxP (BL P) (.int (k : Int)) = some (pr (bnd P k)) := by
  unfold BL
  rw [idx_pl pr (P.ps.map (bounds P.c P.h P.gs)) k (by simpa using hk)]
  simp [bnd, pg, hk]
theorem k_blist (n : Nat) (P : Pl) (hl : P.ps.length ≤ 1000) : Cn (n + 4) 8 [.d (dP P)] = .ok (BL P) [.d (dP P)] := c_blist n P.c P.r P.h P.ps P.gs hl
theorem k_lawb (n : Nat) (P : Pl) (hl : P.ps.length ≤ 1000) : Cn (n + 2) 27 [.d (dP P)] = .ok (BL P) [.d (dP P)] := c_lawb n P.c P.r P.h P.ps P.gs hl
/-- first and last -/
theorem ch_ends {m : Nat} {T : List Nat} (h : Ch m T) : ∃ a z, a < m ∧ z < m ∧ idxD (chD T) (.int 0) = some (.int (a : Int)) ∧ idxD (chD T) (.int (-1)) = some (.int (z : Int)) ∧ T[0]? = some a ∧ T.getLast? = some z := by
  have h0 := h.ne
  obtain ⟨a, T1, rfl⟩ : ∃ a T1, T = a :: T1 := by
    cases T with
    | nil => simp at h0
    | cons a T1 => exact ⟨a, T1, rfl⟩
  have hne : (a :: T1) ≠ [] := by simp
  have hz := List.dropLast_concat_getLast hne
  refine ⟨a, (a :: T1).getLast hne, h.lt a (by simp), h.lt _ (List.getLast_mem hne), ?_, ?_, by simp, List.getLast?_eq_some_getLast hne⟩
  · show L2.atI (Dat.int (a : Int) :: (nS T1).map Dat.int) 0 = _
    exact at0
  · show L2.atI ((nS (a :: T1)).map Dat.int) (-1) = _
    have : (nS (a :: T1)).map Dat.int = (nS (a :: T1).dropLast).map Dat.int ++ [.int (((a :: T1).getLast hne : Nat) : Int)] := by
      rw [← List.map_singleton (f := Dat.int), ← List.map_append, ← nS_snoc, hz]
    rw [this]
    exact at_last _ _
def shortB (P : Pl) (a z : Nat) (T : List Nat) : Bool := decide ((bnd P a).2 + rsum P.ps T < (bnd P z).1)
theorem k_short (n : Nat) (P : Pl) (hl : P.ps.length ≤ 1000) (T : List Nat) (h : Ch P.ps.length T) (hT : T.length ≤ 1000) (a z : Nat) (ha : a < P.ps.length) (hz : z < P.ps.length) (i0 : idxD (chD T) (.int 0) = some (.int (a : Int))) (i1 : idxD (chD T) (.int (-1)) = some (.int (z : Int))) :
    Cn (n + 5) 14 [.d (dP P), .d (chD T)] = .ok (.d (.bl (shortB P a z T))) [.d (dP P), .d (chD T)] := by
  show runFn (Cn (n + 4)) FU f_is_short _ = _
  have e1 := k_blist n P hl
  have e2 := k_csum (n + 2) P T h hT
  have b1 := ix_BL P a ha
  have b2 := ix_BL P z hz
  have ⟨B, hB⟩ : ∃ L, BL P = .lst L := ⟨_, rfl⟩
  rw [hB] at e1 b1 b2
  unfold shortB
  simp only [runFn, f_is_short, b_is_short]
  generalize dP P = D at *
  generalize chD T = X at *
  simp only [pr] at b1 b2
  simp [endC, retC, outA_eq, takeL, giveL, lendOf, e1, i0, i1, b1, b2, e2, at0, at1]
theorem k_looked (n : Nat) (P : Pl) (hl : P.ps.length ≤ 1000) (T : List Nat) (h : Ch P.ps.length T) (hT : T.length ≤ 1000) : Cn (n + 6) 36 [.d (dP P), .d (chD T), BL P] = .ok (.d (.bl true)) [.d (dP P), .d (chD T), BL P] := by
  show runFn (Cn (n + 5)) FU f__law_looked_at _ = _
  obtain ⟨a, z, ha, hz, i0, i1, _, _⟩ := ch_ends h
  have e1 := k_lsum (n + 3) P T h hT
  have e2 := k_csum (n + 3) P T h hT
  have e3 := k_told n P (chD T)
  rw [due_ok h] at e3
  have e4 := k_short n P hl T h hT a z ha hz i0 i1
  have b1 := ix_BL P a ha
  have b2 := ix_BL P z hz
  have ⟨B, hB⟩ : ∃ L, BL P = .lst L := ⟨_, rfl⟩
  rw [hB] at b1 b2 ⊢
  have hlen : biD .len [chD T] = some (.d (.int (T.length : Int))) := by
    show some (PV.d (.int (((nS T).map Dat.int).length : Int))) = _
    simp [nS]
  have ok_told : PyData.strOk ("told" : Str) = true := by decide +kernel
  have s1 := c_same (n + 4) (.tup [.int (rsum P.ps T), .tup [.str "told", .int (T.length : Int)]]) (by simp [flatD, flatDs, ok_told]) (by simp [szD, szDs])
  have s2 := c_same (n + 4) (.bl (shortB P a z T)) rfl (by simp [szD])
  unfold shortB at e4 s2
  simp only [runFn, f__law_looked_at, b__law_looked_at]
  generalize dP P = D at *
  generalize chD T = X at *
  generalize rsum P.ps T = RS at *
  simp only [pr] at b1 b2
  simp [endC, retC, outA_eq, takeL, giveL, lendOf, e1, e2, e3, hlen, s1, i0, i1, b1, b2, e4, at0, at1, s2]
/-! ### pegs told -/
theorem k_tleast (n : Nat) (P : Pl) (hN : (P.ps.map pos).Nodup) (hl : P.ps.length ≤ 900) (p q : Nat) (hp : p < P.ps.length) (hq : q < P.ps.length) :
    Cn (n + 4) 32 [.d (dP P), .d (.int (p : Int)), .d (.int (q : Int))] = .ok (.d (.int (rF P.ps p q))) [.d (dP P), .d (.int (p : Int)), .d (.int (q : Int))] := by
  show runFn (Cn (n + 3)) FU f__law_told_least _ = _
  have e := k_lr n P hN hl p q hp hq
  generalize dP P = D at *
  simp [runFn, f__law_told_least, b__law_told_least, endC, retC, outA_eq, takeL, giveL, lendOf, e]
def PegBad (m : Nat) (k : Int) : Prop := k < 0 ∨ (m : Int) ≤ k
theorem k_peg_ok (n : Nat) (P : Pl) (k : Int) (h : ¬ PegBad P.ps.length k) : Cn (n + 1) 0 [.d (dP P), .d (.int k)] = .ok (.d .non) [.d (dP P), .d (.int k)] := by
  unfold PegBad at h
  exact c_peg_ok n P.c P.r P.h P.ps P.gs k (by omega) (by omega)
theorem k_peg_no (n : Nat) (P : Pl) (k : Int) (h : PegBad P.ps.length k) : Cn (n + 1) 0 [.d (dP P), .d (.int k)] = .exc "BadStep" [("word", .str "peg")] [.d (dP P), .d (.int k)] := c_peg_no n P.c P.r P.h P.ps P.gs k h
theorem no_least (n : Nat) (P : Pl) (p q : Int) (h : PegBad P.ps.length p ∨ PegBad P.ps.length q) : Cn (n + 2) 18 [.d (dP P), .d (.int p), .d (.int q)] = .exc "BadStep" [("word", .str "peg")] [.d (dP P), .d (.int p), .d (.int q)] := by
  show runFn (Cn (n + 1)) FU f_least_room _ = _
  by_cases hp : PegBad P.ps.length p
  · have e := k_peg_no n P p hp
    generalize dP P = D at *
    simp [runFn, f_least_room, b_least_room, endC, retC, outA_eq, takeL, giveL, lendOf, e]
  · have hq : PegBad P.ps.length q := h.resolve_left hp
    have e := k_peg_no n P q hq
    have e2 := k_peg_ok n P p hp
    generalize dP P = D at *
    simp [runFn, f_least_room, b_least_room, endC, retC, outA_eq, takeL, giveL, lendOf, e, e2]
theorem no_chain (n : Nat) (P : Pl) (p q : Int) (h : PegBad P.ps.length p ∨ PegBad P.ps.length q) : Cn (n + 2) 19 [.d (dP P), .d (.int p), .d (.int q)] = .exc "BadStep" [("word", .str "peg")] [.d (dP P), .d (.int p), .d (.int q)] := by
  show runFn (Cn (n + 1)) FU f_least_chain _ = _
  by_cases hp : PegBad P.ps.length p
  · have e := k_peg_no n P p hp
    generalize dP P = D at *
    simp [runFn, f_least_chain, b_least_chain, endC, retC, outA_eq, takeL, giveL, lendOf, e]
  · have hq : PegBad P.ps.length q := h.resolve_left hp
    have e := k_peg_no n P q hq
    have e2 := k_peg_ok n P p hp
    generalize dP P = D at *
    simp [runFn, f_least_chain, b_least_chain, endC, retC, outA_eq, takeL, giveL, lendOf, e, e2]
theorem lk_step : List.lookup ("BadStep" : Str) [(("BadChain" : Str), false), ("BadStep", true)] = some true := by decide +kernel
theorem lk_word : List.lookup ("word" : Str) [(("word" : Str), Dat.str "peg")] = some (.str "peg") := by
  have : (("word" : Str) == "word") = true := by decide +kernel
  rw [List.lookup, this]
theorem told_no_least (n : Nat) (P : Pl) (p q : Int) (h : PegBad P.ps.length p ∨ PegBad P.ps.length q) : Cn (n + 3) 32 [.d (dP P), .d (.int p), .d (.int q)] = .ok (.d (.tup [.str "peg"])) [.d (dP P), .d (.int p), .d (.int q)] := by
  show runFn (Cn (n + 2)) FU f__law_told_least _ = _
  have e := no_least n P p q h
  generalize dP P = D at *
  simp [runFn, f__law_told_least, b__law_told_least, endC, retC, outA_eq, takeL, giveL, lendOf, e, lk_step, evalHG, evalH, evalHs, lk_word]
theorem told_no_chain (n : Nat) (P : Pl) (p q : Int) (h : PegBad P.ps.length p ∨ PegBad P.ps.length q) : Cn (n + 3) 33 [.d (dP P), .d (.int p), .d (.int q)] = .ok (.d (.tup [.str "peg"])) [.d (dP P), .d (.int p), .d (.int q)] := by
  show runFn (Cn (n + 2)) FU f__law_told_chain _ = _
  have e := no_chain n P p q h
  generalize dP P = D at *
  simp [runFn, f__law_told_chain, b__law_told_chain, endC, retC, outA_eq, takeL, giveL, lendOf, e, lk_step, evalHG, evalH, evalHs, lk_word]
/-! ### the chain that is told is a chain from p to q of least room -/
theorem way_last {p : Nat} {g : Nat → Option Nat} : ∀ {L : List Nat} {q : Nat}, Way p g (q :: L) → (q :: L).getLast? = some p
  | [], q, h => by
    cases h
    rfl
  | r :: L, q, h => by
    cases h with
    | more _ _ _ h1 h2 =>
      rw [List.getLast?_cons_cons]
      exact way_last h2
def sumA (ps : List Q4) : List Nat → Int
  | a :: b :: L => roomI (pg ps a) (pg ps b) + sumA ps (b :: L)
  | _ => 0
theorem rsum_A (ps : List Q4) : ∀ T, rsum ps T = sumA ps T
  | [] => rfl
  | [a] => rfl
  | a :: b :: L => by
    have ih := rsum_A ps (b :: L)
    unfold rsum at ih ⊢
    rw [sumA, ← ih]
    simp
theorem sumA_snoc (ps : List Q4) (b a : Nat) : ∀ T, sumA ps (T ++ [b] ++ [a]) = sumA ps (T ++ [b]) + roomI (pg ps b) (pg ps a)
  | [] => by simp [sumA]
  | [c] => by
    simp [sumA]
  | c :: d :: T => by
    have ih := sumA_snoc ps b a (d :: T)
    simp only [List.cons_append, sumA] at ih ⊢
    omega
theorem sumW_rev (ps : List Q4) : ∀ L : List Nat, L.Nodup → sumW (wR ps) L = sumA ps L.reverse
  | [], _ => rfl
  | [a], _ => rfl
  | a :: b :: L, h => by
    have ih := sumW_rev ps (b :: L) (List.nodup_cons.mp h).2
    have hne : ¬ b = a := fun e => by
      have := (List.nodup_cons.mp h).1
      exact this (by simp [e])
    have e1 : (a :: b :: L).reverse = L.reverse ++ [b] ++ [a] := by simp
    have e2 : (b :: L).reverse = L.reverse ++ [b] := by simp
    rw [e1, sumA_snoc, ← e2, ← ih, sumW]
    unfold wR
    rw [if_neg hne]
    omega
theorem k_tchain (n : Nat) (P : Pl) (hN : (P.ps.map pos).Nodup) (hl : P.ps.length ≤ 900) (p q : Nat) (hp : p < P.ps.length) (hq : q < P.ps.length) :
    ∃ T, Ch P.ps.length T ∧ T.length ≤ 900 ∧ idxD (chD T) (.int 0) = some (.int (p : Int)) ∧ idxD (chD T) (.int (-1)) = some (.int (q : Int)) ∧ rsum P.ps T = rF P.ps p q ∧
      Cn (n + 4) 33 [.d (dP P), .d (.int (p : Int)), .d (.int (q : Int))] = .ok (.d (chD T)) [.d (dP P), .d (.int (p : Int)), .d (.int (q : Int))] := by
  obtain ⟨L, w1, w2, w3, w4, w5, e⟩ := k_lc n P hN hl p q hp hq
  have hC : Ch P.ps.length (q :: L).reverse := ⟨(List.reverse_perm _).nodup_iff.mpr w2, fun r hr => w3 r (List.mem_reverse.mp hr), by simp⟩
  obtain ⟨a, z, _, _, i0, i1, t0, t1⟩ := ch_ends hC
  have ha : a = p := by
    have h1 := way_last w1
    have h2 : (q :: L).reverse[0]? = (q :: L).getLast? := by
      rw [← List.head?_eq_getElem?, List.head?_reverse]
    rw [h2, h1] at t0
    exact (Option.some.inj t0).symm
  have hz : z = q := by
    rw [List.getLast?_reverse] at t1
    exact (Option.some.inj t1).symm
  subst ha
  subst hz
  refine ⟨_, hC, by simp; omega, i0, i1, ?_, ?_⟩
  · rw [rsum_A, ← sumW_rev _ _ w2, w4]
  · show runFn (Cn (n + 3)) FU f__law_told_chain _ = _
    generalize dP P = D at *
    generalize chD (z :: L).reverse = X at *
    simp [runFn, f__law_told_chain, b__law_told_chain, endC, retC, outA_eq, takeL, giveL, lendOf, e]
theorem k_ischain (n : Nat) (P : Pl) (T : List Nat) (h : Ch P.ps.length T) (hT : T.length ≤ 1000) (p q : Int) (i0 : idxD (chD T) (.int 0) = some (.int p)) (i1 : idxD (chD T) (.int (-1)) = some (.int q)) :
    Cn (n + 3) 34 [.d (dP P), .d (chD T), .d (.int p), .d (.int q), .d (.int (rsum P.ps T))] = .ok (.d (.bl true)) [.d (dP P), .d (chD T), .d (.int p), .d (.int q), .d (.int (rsum P.ps T))] := by
  show runFn (Cn (n + 2)) FU f__law_is_chain _ = _
  have e1 := k_due n P (chD T) (fun xs hx => by
    unfold chD at hx
    cases hx
    simp [nS]
    exact hT)
  rw [due_ok h] at e1
  have e2 := k_lsum n P T h hT
  have en : cmpD .ne (.str "told") (.str "told") = some false := by decide +kernel
  simp only [runFn, f__law_is_chain, b__law_is_chain]
  generalize rsum P.ps T = RS at *
  generalize dP P = D at *
  generalize chD T = X at *
  simp [endC, retC, outA_eq, takeL, giveL, lendOf, e1, en, i0, i1, e2, at0]
end Law

/-! K14k: things; turns of a scene. -/
namespace Law
open PySem L2 R
open PyProof.Rows hiding St
theorem cut_len (xs : List Dat) (lo hi : Option Int) : (R.cutD xs lo hi).length ≤ xs.length := by
  unfold R.cutD
  rw [List.length_take, List.length_drop]
  omega
theorem slT (xs : List Dat) (lo hi : Option Int) : slD (.tup xs) lo hi = some (.d (.tup (R.cutD xs lo hi))) := rfl
theorem addT (a b : List Dat) (h : a.length + b.length ≤ 100000) : binD .add (.tup a) (.tup b) = some (.d (.tup (a ++ b))) := by
  show (if decide (a.length + b.length ≤ sizeLine) = true then some (PV.d (.tup (a ++ b))) else none) = _
  rw [if_pos (by rw [decide_eq_true_eq, sizeLine_eq]; omega)]
theorem addL (a b : List Dat) (h : a.length + b.length ≤ 100000) : binD .add (.lst a) (.lst b) = some (dl (a ++ b)) := by
  show (if decide (a.length + b.length ≤ sizeLine) = true then some (dl (a ++ b)) else none) = _
  rw [if_pos (by rw [decide_eq_true_eq, sizeLine_eq]; omega)]
theorem dl_frz (l : List Dat) : PV.frz (dl l) = .lst l := by
  have := pl_frz (fun x : Dat => x) l
  rw [List.map_id'] at this
  exact this
def Sh (t : Dat) : Prop := ∀ xs, t = .tup xs → xs.length ≤ 1000
theorem sh_tup {xs : List Dat} (h : xs.length ≤ 1000) : Sh (.tup xs) := fun ys e => by
  cases e
  exact h
theorem sh_no {t : Dat} (h : tyD .tuple t = false) : Sh t := fun xs e => by
  subst e
  cases h
theorem k_things (n : Nat) (L : List Int) (P : Pl) (T : List Nat) (h : Ch P.ps.length T) (hT : T.length ≤ 400) : ∃ L' ts, Cn (n + 2) 37 [.lst (pl .int L), .d (dP P), .d (chD T)] = .ok (dl ts) [.lst (pl .int L'), .d (dP P), .d (chD T)] ∧ ∀ t ∈ ts, Sh t := by
  have hT0 := h.ne
  have hlX : ((nS T).map Dat.int).length = T.length := by simp [nS]
  have draw : ∀ L : List Int, ∃ (i : Nat) (L' : List Int), Cn (n + 1) 21 [.lst (pl .int L), .d (.int (T.length : Int))] = .ok (.d (.int (i : Int))) [.lst (pl .int L'), .d (.int (T.length : Int))] ∧ i < T.length := fun L => by
    obtain ⟨r, L', e, h1, h2⟩ := c_take n L (T.length : Int)
    obtain ⟨r0, rl⟩ : 0 ≤ r ∧ r < (T.length : Int) := by
      by_cases hh : (T.length : Int) < 2
      · rw [h1 hh]; omega
      · exact h2 (by omega)
    obtain ⟨i, rfl⟩ := Int.eq_ofNat_of_zero_le r0
    exact ⟨i, L', e, by omega⟩
  obtain ⟨i, M1, e1, hi⟩ := draw L
  obtain ⟨j, M2, e2, hj⟩ := draw M1
  have p3 := idP3 P
  have hn : (P.ps.map d4).length = P.ps.length := List.length_map _
  have io : idxD (chD T) (.int (j : Int)) = some (.int (T[j] : Int)) := by
    show L2.atI ((nS T).map Dat.int) (j : Int) = _
    rw [at_map Dat.int (nS T) j (by simpa [nS] using hj)]
    simp [nS]
  have hlen : biD .len [chD T] = some (.d (.int (T.length : Int))) := by
    show some (PV.d (.int (((nS T).map Dat.int).length : Int))) = _
    rw [hlX]
  have hX : chD T = .tup ((nS T).map .int) := rfl
  rw [hX] at io hlen ⊢
  generalize T[j] = o at *
  generalize (nS T).map Dat.int = X at *
  have lA := cut_len X none (some (i : Int))
  have lB := cut_len X (some (i : Int)) none
  have lC := cut_len X (some ((i : Int) + 1)) none
  have sA := slT X none (some (i : Int))
  have sB := slT X (some (i : Int)) none
  have sC := slT X (some ((i : Int) + 1)) none
  have sl : biD .list [.tup X] = some (dl X) := rfl
  have sr : revD (.tup X) = some (.d (.tup X.reverse)) := rfl
  generalize R.cutD X none (some (i : Int)) = A at *
  generalize R.cutD X (some (i : Int)) none = B at *
  generalize R.cutD X (some ((i : Int) + 1)) none = C at *
  have a1 := addT A [.int (-1)] (by simp; omega)
  have a2 := addT (A ++ [.int (-1)]) B (by simp; omega)
  have a3 := addT A [.int (P.ps.length : Int)] (by simp; omega)
  have a4 := addT X [.int (o : Int)] (by simp; omega)
  have a5 := addT A [.bl true] (by simp; omega)
  have a6 := addT (A ++ [.bl true]) C (by simp; omega)
  have a7 := addT X [.non] (by simp; omega)
  have a8 := addT A [.tup [.int 0]] (by simp; omega)
  have a9 := addT [.int (o : Int)] X (by simp; omega)
  have b1 := addT A [.str "0"] (by simp; omega)
  have b2 := addT (A ++ [.str "0"]) B (by simp; omega)
  have b3 := addT X [.int (o : Int), .int (-5)] (by simp; omega)
  generalize ha2 : A ++ [.int (-1)] ++ B = A2 at *
  generalize ha3 : A ++ [.int (P.ps.length : Int)] = A3 at *
  generalize ha4 : X ++ [.int (o : Int)] = A4 at *
  generalize ha6 : A ++ [.bl true] ++ C = A6 at *
  generalize ha7 : X ++ [.non] = A7 at *
  generalize ha8 : A ++ [.tup [.int 0]] = A8 at *
  generalize ha9 : [.int (o : Int)] ++ X = A9 at *
  generalize hb2 : A ++ [.str "0"] ++ B = B2 at *
  generalize hb3 : X ++ [.int (o : Int), .int (-5)] = B3 at *
  generalize ha1 : A ++ [Dat.int (-1)] = A1 at *
  generalize ha5 : A ++ [Dat.bl true] = A5 at *
  generalize hb1 : A ++ [Dat.str "0"] = B1 at *
  generalize hXR : X.reverse = XR at *
  have c1 : binD .add (.lst [Dat.lst X, Dat.tup [], Dat.non, Dat.int 3, Dat.str "012", Dat.tup [.tup X], Dat.tup A2, Dat.tup A3]) (.lst [Dat.tup A4, Dat.tup A6, Dat.tup A7, Dat.tup A8]) = some (.lst [PV.d (Dat.lst X), PV.d (Dat.tup []), PV.d (Dat.non), PV.d (Dat.int 3), PV.d (Dat.str "012"), PV.d (Dat.tup [.tup X]), PV.d (Dat.tup A2), PV.d (Dat.tup A3), PV.d (Dat.tup A4), PV.d (Dat.tup A6), PV.d (Dat.tup A7), PV.d (Dat.tup A8)]) := addL [Dat.lst X, Dat.tup [], Dat.non, Dat.int 3, Dat.str "012", Dat.tup [.tup X], Dat.tup A2, Dat.tup A3] [Dat.tup A4, Dat.tup A6, Dat.tup A7, Dat.tup A8] (by simp)
  have c2 : binD .add (.lst [Dat.lst X, Dat.tup [], Dat.non, Dat.int 3, Dat.str "012", Dat.tup [.tup X], Dat.tup A2, Dat.tup A3, Dat.tup A4, Dat.tup A6, Dat.tup A7, Dat.tup A8]) (.lst [Dat.tup A9, Dat.tup B2, Dat.tup B3, Dat.tup XR]) = some (.lst [PV.d (Dat.lst X), PV.d (Dat.tup []), PV.d (Dat.non), PV.d (Dat.int 3), PV.d (Dat.str "012"), PV.d (Dat.tup [.tup X]), PV.d (Dat.tup A2), PV.d (Dat.tup A3), PV.d (Dat.tup A4), PV.d (Dat.tup A6), PV.d (Dat.tup A7), PV.d (Dat.tup A8), PV.d (Dat.tup A9), PV.d (Dat.tup B2), PV.d (Dat.tup B3), PV.d (Dat.tup XR)]) := addL [Dat.lst X, Dat.tup [], Dat.non, Dat.int 3, Dat.str "012", Dat.tup [.tup X], Dat.tup A2, Dat.tup A3, Dat.tup A4, Dat.tup A6, Dat.tup A7, Dat.tup A8] [Dat.tup A9, Dat.tup B2, Dat.tup B3, Dat.tup XR] (by simp)
  refine ⟨M2, [Dat.lst X, Dat.tup [], Dat.non, Dat.int 3, Dat.str "012", Dat.tup [.tup X], Dat.tup A2, Dat.tup A3, Dat.tup A4, Dat.tup A6, Dat.tup A7, Dat.tup A8, Dat.tup A9, Dat.tup B2, Dat.tup B3, Dat.tup XR], ?_, ?_⟩
  · show runFn (Cn (n + 1)) FU f__law_things _ = _
    have h8 : 8 ≤ sizeLine := le_line (by decide)
    have hd : PV.frz (dl X) = .lst X := dl_frz X
    have hD : dl [Dat.lst X, Dat.tup [], Dat.non, Dat.int 3, Dat.str "012", Dat.tup [.tup X], Dat.tup A2, Dat.tup A3, Dat.tup A4, Dat.tup A6, Dat.tup A7, Dat.tup A8, Dat.tup A9, Dat.tup B2, Dat.tup B3, Dat.tup XR] = .lst [PV.d (Dat.lst X), PV.d (Dat.tup []), PV.d (Dat.non), PV.d (Dat.int 3), PV.d (Dat.str "012"), PV.d (Dat.tup [.tup X]), PV.d (Dat.tup A2), PV.d (Dat.tup A3), PV.d (Dat.tup A4), PV.d (Dat.tup A6), PV.d (Dat.tup A7), PV.d (Dat.tup A8), PV.d (Dat.tup A9), PV.d (Dat.tup B2), PV.d (Dat.tup B3), PV.d (Dat.tup XR)] := rfl
    rw [hD]
    simp only [runFn, f__law_things, b__law_things]
    have hm0 : mkTup [] = .d (.tup []) := rfl
    have hfl : ∀ xs, PV.frz (.lst xs) = .lst (frzs xs) := fun _ => rfl
    have hfc : ∀ p r, frzs (p :: r) = PV.frz p :: frzs r := fun _ _ => rfl
    have hfd : ∀ x, PV.frz (.d x) = x := fun _ => rfl
    generalize dl X = DX at *
    generalize P.ps.map d4 = PS at *
    generalize dP P = D at *
    simp [endC, retC, outA_eq, takeL, giveL, lendOf, hlen, e1, e2, io, p3, hn, sA, sB, sC, sl, sr, a1, a2, a3, a4, a5, a6, a7, a8, a9, b1, b2, b3, h8, hd, c1, c2, hm0, hfl, hfc, hfd]
  · intro t ht
    simp only [List.mem_cons, List.not_mem_nil, or_false] at ht
    rcases ht with h | h | h | h | h | h | h | h | h | h | h | h | h | h | h | h <;> rw [h]
    · exact sh_no rfl
    · exact sh_tup (by simp)
    · exact sh_no rfl
    · exact sh_no rfl
    · exact sh_no rfl
    · exact sh_tup (by simp)
    all_goals exact sh_tup (by subst_vars; simp; omega)
end Law

/-! K14l: a scene. -/
namespace Law
open PySem L2 R
open PyProof.Rows hiding St
theorem xb_app (C : CF) (fu : Nat) : ∀ (a b : List S) (σ σ1 : Sto), execB C fu a σ = .nx σ1 → execB C fu (a ++ b) σ = execB C fu b σ1
  | [], b, σ, σ1, h => by
    rw [xb_nil] at h
    cases h
    rfl
  | s :: a, b, σ, σ1, h => by
    rw [List.cons_append, xb_cons]
    rw [xb_cons] at h
    cases e : execS C fu s σ with
    | nx τ =>
      rw [e] at h
      exact xb_app C fu a b τ σ1 h
    | ret _ _ => rw [e] at h; cases h
    | exc _ _ _ => rw [e] at h; cases h
    | brk _ => rw [e] at h; cases h
    | cont _ => rw [e] at h; cases h
    | bad => rw [e] at h; cases h
theorem flt_w {m : Nat} : ∀ {xs : List Dat} {seen : List Int} {k : Nat} {w : Str}, flt m seen xs = some (k, w) → w = "peg" ∨ w = "twice"
  | [], seen, k, w, h => by cases h
  | x :: xs, seen, k, w, h => by
    rw [flt] at h
    cases hx : isP m x with
    | none =>
      rw [hx] at h
      cases h
      exact .inl rfl
    | some i =>
      rw [hx] at h
      simp only at h
      by_cases hi : i ∈ seen
      · rw [if_pos hi] at h
        cases h
        exact .inr rfl
      · rw [if_neg hi] at h
        exact flt_w h
theorem ok_told : PyData.strOk ("told" : Str) = true := by decide +kernel
theorem ok_bad : PyData.strOk ("bad" : Str) = true := by decide +kernel
theorem ok_shape : PyData.strOk ("shape" : Str) = true := by decide +kernel
theorem ok_peg : PyData.strOk ("peg" : Str) = true := by decide +kernel
theorem ok_twice : PyData.strOk ("twice" : Str) = true := by decide +kernel
theorem due_flat (m : Nat) (t : Dat) : flatD (due m t) = true ∧ szD (due m t) < 899999 := by
  by_cases ht : tyD .tuple t = false
  · rw [due_shape ht]
    constructor <;> simp [flatD, flatDs, szD, szDs, ok_bad, ok_shape]
  · cases t with
    | tup xs =>
      cases xs with
      | nil => constructor <;> simp [due, flatD, flatDs, szD, szDs, ok_bad, ok_shape]
      | cons x xs =>
        have hd : due m (.tup (x :: xs)) = (match flt m [] (x :: xs) with
          | none => .tup [.str "told", .int ((xs.length : Int) + 1)]
          | some (k, w) => .tup [.str "bad", .int (k : Int), .str w]) := rfl
        rw [hd]
        cases hf : flt m [] (x :: xs) with
        | none => constructor <;> simp [flatD, flatDs, szD, szDs, ok_told]
        | some q =>
          obtain ⟨k, w⟩ := q
          rcases flt_w hf with h | h <;> subst h
          · constructor <;> simp [flatD, flatDs, szD, szDs, ok_bad, ok_peg]
          · constructor <;> simp [flatD, flatDs, szD, szDs, ok_bad, ok_twice]
    | _ => exact absurd rfl ht
def bTh : List S := [
        .ite (.not (.call 22 [(.call 31 [.lend 1, .lend 8]), (.call 30 [.lend 1, .lend 8])])) [
          .ret (.lit (.bl false))] []]
theorem th_turn (n : Nat) (P : Pl) (t : Dat) (ht : Sh t) (a0 a2 a3 a4 a5 a6 a7 a8 a9 a10 a11 : Option PV) : turnF (Cn (n + 5)) FU (.n 8) bTh t [a0, some (.d (dP P)), a2, a3, a4, a5, a6, a7, a8, a9, a10, a11] = .nx [a0, some (.d (dP P)), a2, a3, a4, a5, a6, a7, some (.d t), a9, a10, a11] := by
  have e1 := k_told n P t
  have e2 := k_due (n + 3) P t ht
  have e3 := c_same (n + 4) (due P.ps.length t) (due_flat _ t).1 (due_flat _ t).2
  generalize due P.ps.length t = U at *
  generalize dP P = D at *
  simp [turnF, bTh, takeL, giveL, lendOf, e1, e2, e3]
theorem th_loop (n : Nat) (P : Pl) (a0 a2 a3 a4 a5 a6 a7 a9 a10 a11 : Option PV) : ∀ (ts : List Dat) (h : ∀ t ∈ ts, Sh t) (a8 : Option PV), ∃ y8, seqL (turnF (Cn (n + 5)) FU (.n 8) bTh) ts [a0, some (.d (dP P)), a2, a3, a4, a5, a6, a7, a8, a9, a10, a11] = .nx [a0, some (.d (dP P)), a2, a3, a4, a5, a6, a7, y8, a9, a10, a11]
  | [], _, a8 => ⟨a8, rfl⟩
  | t :: ts, h, a8 => by
    obtain ⟨y8, e⟩ := th_loop n P a0 a2 a3 a4 a5 a6 a7 a9 a10 a11 ts (fun x hx => h x (List.mem_cons_of_mem _ hx)) (some (.d t))
    exact ⟨y8, by rw [seqL, th_turn n P t (h t (by simp))]; exact e⟩
theorem draw (n : Nat) (L : List Int) (m : Nat) (hm : 0 < m) : ∃ (i : Nat) (L' : List Int), Cn (n + 1) 21 [.lst (pl .int L), .d (.int (m : Int))] = .ok (.d (.int (i : Int))) [.lst (pl .int L'), .d (.int (m : Int))] ∧ i < m := by
  obtain ⟨r, L', e, h1, h2⟩ := c_take n L (m : Int)
  obtain ⟨r0, rl⟩ : 0 ≤ r ∧ r < (m : Int) := by
    by_cases hh : (m : Int) < 2
    · rw [h1 hh]; omega
    · exact h2 (by omega)
  obtain ⟨i, rfl⟩ := Int.eq_ofNat_of_zero_le r0
  exact ⟨i, L', e, by omega⟩
def bS1 : List S := [
    .set 7 (.call 35 [.lend 0, .lend 3, (.bin .add (.lit (.int 1)) (.call 21 [.lend 0, (.lit (.int 6))]))]),
    .ite (.not (.call 36 [.lend 1, .lend 7, .lend 4])) [
      .ret (.lit (.bl false))] [],
    .ite (.cmp .eq (.get 6) (.lit (.int 0))) [
      .for_ .seq [(.call 37 [.lend 0, .lend 1, .lend 7])] (.n 8) bTh] []]
theorem s1_turn (n : Nat) (P : Pl) (h0 : 0 < P.ps.length) (hl : P.ps.length ≤ 400) (L : List Int) (k : Int) (a2 a5 a6 a7 a8 a9 a10 a11 : Option PV) : ∃ L' y7 y8,
    turnF (Cn (n + 6)) FU (.n 6) bS1 (.int k) [some (.lst (pl .int L)), some (.d (dP P)), a2, some (.d (.int (P.ps.length : Int))), some (BL P), a5, a6, a7, a8, a9, a10, a11] =
      .nx [some (.lst (pl .int L')), some (.d (dP P)), a2, some (.d (.int (P.ps.length : Int))), some (BL P), a5, some (.d (.int k)), y7, y8, a9, a10, a11] := by
  obtain ⟨i, M1, e1, _⟩ := draw (n + 5) L 6 (by omega)
  obtain ⟨M2, T, e2, hT, hTl⟩ := k_chain (n + 4) M1 P.ps.length (i + 1) (by omega) h0 (by omega)
  have ei : ((i + 1 : Nat) : Int) = 1 + (i : Int) := by omega
  rw [ei] at e2
  have e3 := k_looked n P (by omega) T hT (by omega)
  have e6 : ((6 : Nat) : Int) = 6 := rfl
  rw [e6] at e1
  have ⟨B, hB⟩ : ∃ L, BL P = .lst L := ⟨_, rfl⟩
  by_cases hk : k = 0
  · obtain ⟨M3, ts, e4, hts⟩ := k_things (n + 4) M2 P T hT (by omega)
    obtain ⟨y8, e5⟩ := th_loop (n + 1) P (some (.lst (pl .int M3))) a2 (some (.d (.int (P.ps.length : Int)))) (some (BL P)) a5 (some (.d (.int k))) (some (.d (chD T))) a9 a10 a11 ts hts a8
    refine ⟨M3, some (.d (chD T)), y8, ?_⟩
    rw [hB] at e3 e5 ⊢
    have hf := dl_frz ts
    generalize dl ts = DT at *
    generalize dP P = D at *
    generalize chD T = X at *
    subst hk
    simp [turnF, bS1, takeL, giveL, lendOf, e1, e2, e3, e4, hf, e5]
  · refine ⟨M2, some (.d (chD T)), a8, ?_⟩
    rw [hB] at e3 ⊢
    generalize dP P = D at *
    generalize chD T = X at *
    simp [turnF, bS1, takeL, giveL, lendOf, e1, e2, e3, hk]
theorem s1_loop (n : Nat) (P : Pl) (h0 : 0 < P.ps.length) (hl : P.ps.length ≤ 400) (L : List Int) (m : Nat) (a2 a5 a6 a7 a8 a9 a10 a11 : Option PV) : ∃ L' y6 y7 y8,
    seqR (turnF (Cn (n + 6)) FU (.n 6) bS1) 1 m 0 [some (.lst (pl .int L)), some (.d (dP P)), a2, some (.d (.int (P.ps.length : Int))), some (BL P), a5, a6, a7, a8, a9, a10, a11] =
      .nx [some (.lst (pl .int L')), some (.d (dP P)), a2, some (.d (.int (P.ps.length : Int))), some (BL P), a5, y6, y7, y8, a9, a10, a11] := by
  obtain ⟨σ', e, L', y6, y7, y8, rfl⟩ := seqN_inv (f := turnF (Cn (n + 6)) FU (.n 6) bS1)
    (fun k τ => ∃ L' y6 y7 y8, τ = [some (.lst (pl .int L')), some (.d (dP P)), a2, some (.d (.int (P.ps.length : Int))), some (BL P), a5, y6, y7, y8, a9, a10, a11]) m 0
    [some (.lst (pl .int L)), some (.d (dP P)), a2, some (.d (.int (P.ps.length : Int))), some (BL P), a5, a6, a7, a8, a9, a10, a11] ⟨L, a6, a7, a8, rfl⟩ fun j τ _ hj ⟨L', y6, y7, y8, hy⟩ => by
      subst hy
      obtain ⟨M, z7, z8, e⟩ := s1_turn n P h0 hl L' j a2 a5 y6 y7 y8 a9 a10 a11
      exact ⟨_, .inl e, M, _, z7, z8, rfl⟩
  exact ⟨L', y6, y7, y8, e⟩
def bS2 : List S := [
    .par [9, 10] [(.call 21 [.lend 0, .lend 3]), (.call 21 [.lend 0, .lend 3])],
    .set 11 (.call 29 [.lend 1, .lend 9]),
    .ite (.not (.call 22 [(.call 32 [.lend 1, .lend 9, .lend 10]), (.idxv 11 (.get 10))])) [
      .ret (.lit (.bl false))] [],
    .ite (.not (.call 34 [.lend 1, (.call 33 [.lend 1, .lend 9, .lend 10]), .lend 9, .lend 10, (.idxv 11 (.get 10))])) [
      .ret (.lit (.bl false))] []]
theorem s2_turn (n : Nat) (P : Pl) (hN : (P.ps.map pos).Nodup) (h0 : 0 < P.ps.length) (hl : P.ps.length ≤ 400) (L : List Int) (k : Int) (a2 a4 a5 a6 a7 a8 a9 a10 a11 : Option PV) : ∃ L' y9 y10 y11,
    turnF (Cn (n + 6)) FU (.n 6) bS2 (.int k) [some (.lst (pl .int L)), some (.d (dP P)), a2, some (.d (.int (P.ps.length : Int))), a4, a5, a6, a7, a8, a9, a10, a11] =
      .nx [some (.lst (pl .int L')), some (.d (dP P)), a2, some (.d (.int (P.ps.length : Int))), a4, a5, some (.d (.int k)), a7, a8, y9, y10, y11] := by
  obtain ⟨p, M1, e1, hp⟩ := draw (n + 5) L P.ps.length h0
  obtain ⟨q, M2, e2, hq⟩ := draw (n + 5) M1 P.ps.length h0
  have e3 := c_lleast (n + 4) P hN (by omega) p hp
  have e4 := k_tleast (n + 2) P hN (by omega) p q hp hq
  have e5 := c_same (n + 5) (.int (rF P.ps p q)) rfl (by simp [szD])
  have e6 := ixLO P.ps.length (fO (rF P.ps p)) q hq
  obtain ⟨T, hT, hTl, i0, i1, hs, e7⟩ := k_tchain (n + 2) P hN (by omega) p q hp hq
  have e8 := k_ischain (n + 3) P T hT (by omega) p q i0 i1
  rw [hs] at e8
  have eo : oD (fO (rF P.ps p) q) = .int (rF P.ps p q) := rfl
  rw [eo] at e6
  refine ⟨M2, some (.d (.int (p : Int))), some (.d (.int (q : Int))), some (LO P.ps.length (fO (rF P.ps p))), ?_⟩
  generalize LO P.ps.length (fO (rF P.ps p)) = A at *
  generalize rF P.ps p q = W at *
  generalize dP P = D at *
  generalize chD T = X at *
  simp [turnF, bS2, takeL, giveL, lendOf, setL, e1, e2, e3, e4, e5, e6, e7, e8]
theorem s2_loop (n : Nat) (P : Pl) (hN : (P.ps.map pos).Nodup) (h0 : 0 < P.ps.length) (hl : P.ps.length ≤ 400) (L : List Int) (m : Nat) (a2 a4 a5 a6 a7 a8 a9 a10 a11 : Option PV) : ∃ L' y6 y9 y10 y11,
    seqR (turnF (Cn (n + 6)) FU (.n 6) bS2) 1 m 0 [some (.lst (pl .int L)), some (.d (dP P)), a2, some (.d (.int (P.ps.length : Int))), a4, a5, a6, a7, a8, a9, a10, a11] =
      .nx [some (.lst (pl .int L')), some (.d (dP P)), a2, some (.d (.int (P.ps.length : Int))), a4, a5, y6, a7, a8, y9, y10, y11] := by
  obtain ⟨σ', e, L', y6, y9, y10, y11, rfl⟩ := seqN_inv (f := turnF (Cn (n + 6)) FU (.n 6) bS2)
    (fun k τ => ∃ L' y6 y9 y10 y11, τ = [some (.lst (pl .int L')), some (.d (dP P)), a2, some (.d (.int (P.ps.length : Int))), a4, a5, y6, a7, a8, y9, y10, y11]) m 0
    [some (.lst (pl .int L)), some (.d (dP P)), a2, some (.d (.int (P.ps.length : Int))), a4, a5, a6, a7, a8, a9, a10, a11] ⟨L, a6, a9, a10, a11, rfl⟩ fun j τ _ hj ⟨L', y6, y9, y10, y11, hy⟩ => by
      subst hy
      obtain ⟨M, z9, z10, z11, e⟩ := s2_turn n P hN h0 hl L' j a2 a4 a5 y6 a7 a8 y9 y10 y11
      exact ⟨_, .inl e, M, _, z9, z10, z11, rfl⟩
  exact ⟨L', y6, y9, y10, y11, e⟩
def bS3 : List S := [
    .ite (.not (.call 22 [(.tup [(.call 32 [.lend 1, .lend 9, .lend 10]), (.call 33 [.lend 1, .lend 9, .lend 10])]), (.tup [(.tup [(.lit (.str "peg"))]), (.tup [(.lit (.str "peg"))])])])) [
      .ret (.lit (.bl false))] []]
theorem s3_turn (n : Nat) (P : Pl) (p q : Int) (h : PegBad P.ps.length p ∨ PegBad P.ps.length q) (a0 a2 a3 a4 a5 a6 a7 a8 a9 a10 a11 : Option PV) :
    turnF (Cn (n + 6)) FU (.t [(.n 9), (.n 10)]) bS3 (.tup [.int p, .int q]) [a0, some (.d (dP P)), a2, a3, a4, a5, a6, a7, a8, a9, a10, a11] =
      .nx [a0, some (.d (dP P)), a2, a3, a4, a5, a6, a7, a8, some (.d (.int p)), some (.d (.int q)), a11] := by
  have e1 := told_no_least (n + 3) P p q h
  have e2 := told_no_chain (n + 3) P p q h
  have e3 := c_same (n + 5) (.tup [.tup [.str "peg"], .tup [.str "peg"]]) (by simp [flatD, flatDs, ok_peg]) (by simp [szD, szDs])
  generalize dP P = D at *
  simp [turnF, bS3, takeL, giveL, lendOf, e1, e2, e3]
theorem r00 (P : Pl) (hN : (P.ps.map pos).Nodup) (p : Nat) (hp : p < P.ps.length) : rF P.ps p p = 0 :=
  (run_DI hp (fun i j hi hj => wR_pos hN hi hj) (by simp [wR]) (P.ps.length - 1)).Fp
theorem g00 (P : Pl) (hN : (P.ps.map pos).Nodup) (p : Nat) (hp : p < P.ps.length) : rG P.ps p p = none :=
  (run_DI hp (fun i j hi hj => wR_pos hN hi hj) (by simp [wR]) (P.ps.length - 1)).gp
theorem k_tchain0 (n : Nat) (P : Pl) (hN : (P.ps.map pos).Nodup) (hl : P.ps.length ≤ 900) (p : Nat) (hp : p < P.ps.length) :
    Cn (n + 4) 33 [.d (dP P), .d (.int (p : Int)), .d (.int (p : Int))] = .ok (.d (.tup [.int (p : Int)])) [.d (dP P), .d (.int (p : Int)), .d (.int (p : Int))] := by
  obtain ⟨L, w1, w2, w3, w4, w5, e⟩ := k_lc n P hN hl p p hp hp
  have hL : L = [] := by
    have hg := g00 P hN p hp
    cases w1 with
    | one h => rfl
    | more q r L h1 h2 => rw [hg] at h1; cases h1
  subst hL
  have hX : chD [p].reverse = .tup [.int (p : Int)] := rfl
  rw [hX] at e
  show runFn (Cn (n + 3)) FU f__law_told_chain _ = _
  generalize dP P = D at *
  simp [runFn, f__law_told_chain, b__law_told_chain, endC, retC, outA_eq, takeL, giveL, lendOf, e]
def bSA : List S := [
  .set 3 (.bi .len [(.idxv 1 (.lit (.int 3)))]),
  .set 4 (.call 27 [.lend 1]),
  .ite (.cmp .eq (.get 3) (.lit (.int 0))) [
    .set 5 (.tup [(.call 31 [.lend 1, (.tup [(.lit (.int 0))])]), (.call 31 [.lend 1, (.tup [])]), (.call 32 [.lend 1, (.lit (.int 0)), (.lit (.int 0))]), (.call 33 [.lend 1, (.lit (.int 0)), (.lit (.int 0))])]),
    .ret (.call 22 [.lend 5, (.tup [(.tup [(.lit (.str "bad")), (.lit (.int 0)), (.lit (.str "peg"))]), (.tup [(.lit (.str "bad")), (.neg (.lit (.int 1))), (.lit (.str "shape"))]), (.tup [(.lit (.str "peg"))]), (.tup [(.lit (.str "peg"))])])])] []]
def bSB : List S := [
  .for_ .range [(.get 2)] (.n 6) bS1,
  .for_ .range [(.lit (.int 3))] (.n 6) bS2,
  .for_ .seq [(.tup [(.tup [(.get 3), (.lit (.int 0))]), (.tup [(.lit (.int 0)), (.get 3)]), (.tup [(.neg (.lit (.int 1))), (.lit (.int 0))]), (.tup [(.lit (.int 0)), (.neg (.lit (.int 1)))]), (.tup [(.get 3), (.get 3)])])] (.t [(.n 9), (.n 10)]) bS3,
  .ret (.call 22 [(.tup [(.call 32 [.lend 1, (.lit (.int 0)), (.lit (.int 0))]), (.call 33 [.lend 1, (.lit (.int 0)), (.lit (.int 0))])]), (.tup [(.lit (.int 0)), (.tup [(.lit (.int 0))])])])]
theorem k_scene (n : Nat) (P : Pl) (hN : (P.ps.map pos).Nodup) (hl : P.ps.length ≤ 400) (L : List Int) (m : Nat) (hm : m ≤ 1000) : ∃ L', Cn (n + 7) 38 [.lst (pl .int L), .d (dP P), .d (.int (m : Int))] = .ok (.d (.bl true)) [.lst (pl .int L'), .d (dP P), .d (.int (m : Int))] := by
  have hb : f__law_scene = ⟨3, 12, [], bSA ++ bSB⟩ := rfl
  have p3 := idP3 P
  have hn : (P.ps.map d4).length = P.ps.length := List.length_map _
  have e1 := k_lawb (n + 4) P (by omega)
  have ⟨B, hB⟩ : ∃ L, BL P = .lst L := ⟨_, rfl⟩
  by_cases h0 : P.ps.length = 0
  · refine ⟨L, ?_⟩
    show runFn (Cn (n + 6)) FU f__law_scene _ = _
    have e2 := k_told (n + 1) P (.tup [.int 0])
    have e3 := k_told (n + 1) P (.tup [])
    have d2 : due P.ps.length (.tup [.int 0]) = .tup [.str "bad", .int 0, .str "peg"] := by rw [h0]; rfl
    have d3 : due P.ps.length (.tup []) = .tup [.str "bad", .int (-1), .str "shape"] := rfl
    rw [d2] at e2
    rw [d3] at e3
    have e4 := told_no_least (n + 3) P 0 0 (.inl (.inr (by omega)))
    have e5 := told_no_chain (n + 3) P 0 0 (.inl (.inr (by omega)))
    have e6 := c_same (n + 5) (.tup [.tup [.str "bad", .int 0, .str "peg"], .tup [.str "bad", .int (-1), .str "shape"], .tup [.str "peg"], .tup [.str "peg"]]) (by simp [flatD, flatDs, ok_peg, ok_bad, ok_shape]) (by simp [szD, szDs])
    have hm0 : mkTup [] = .d (.tup []) := rfl
    rw [hB] at e1
    rw [hb]
    simp only [runFn]
    rw [h0] at hn
    generalize P.ps.map d4 = PS at *
    generalize dP P = D at *
    simp [bSA, endC, retC, outA_eq, takeL, giveL, lendOf, p3, hn, e1, e2, e3, e4, e5, e6, hm0]
  · obtain ⟨M1, y6, y7, y8, e2⟩ := s1_loop n P (by omega) hl L m (some (.d (.int (m : Int)))) none none none none none none none
    obtain ⟨M2, z6, z9, z10, z11, e3⟩ := s2_loop n P hN (by omega) hl M1 3 (some (.d (.int (m : Int)))) (some (BL P)) none y6 y7 y8 none none none
    refine ⟨M2, ?_⟩
    show runFn (Cn (n + 6)) FU f__law_scene _ = _
    have hr := its_rangeN (n := m) (by omega)
    have hr3 : itsOf .range [.int 3] = some (.r 0 1 3) := rfl
    have big : PegBad P.ps.length (P.ps.length : Int) := .inr (by omega)
    have neg : PegBad P.ps.length (-1) := .inl (by omega)
    have t3 := fun p q h a0 a2 a3 a4 a5 a6 a7 a8 a9 a10 a11 => s3_turn n P p q h a0 a2 a3 a4 a5 a6 a7 a8 a9 a10 a11
    have f1 := fun a0 a2 a3 a4 a5 a6 a7 a8 a9 a10 a11 => t3 (P.ps.length : Int) 0 (.inl big) a0 a2 a3 a4 a5 a6 a7 a8 a9 a10 a11
    have f2 := fun a0 a2 a3 a4 a5 a6 a7 a8 a9 a10 a11 => t3 0 (P.ps.length : Int) (.inr big) a0 a2 a3 a4 a5 a6 a7 a8 a9 a10 a11
    have f3 := fun a0 a2 a3 a4 a5 a6 a7 a8 a9 a10 a11 => t3 (-1) 0 (.inl neg) a0 a2 a3 a4 a5 a6 a7 a8 a9 a10 a11
    have f4 := fun a0 a2 a3 a4 a5 a6 a7 a8 a9 a10 a11 => t3 0 (-1) (.inr neg) a0 a2 a3 a4 a5 a6 a7 a8 a9 a10 a11
    have f5 := fun a0 a2 a3 a4 a5 a6 a7 a8 a9 a10 a11 => t3 (P.ps.length : Int) (P.ps.length : Int) (.inl big) a0 a2 a3 a4 a5 a6 a7 a8 a9 a10 a11
    clear t3
    have e4 := k_tleast (n + 2) P hN (by omega) 0 0 (by omega) (by omega)
    rw [r00 P hN 0 (by omega)] at e4
    have e5 := k_tchain0 (n + 2) P hN (by omega) 0 (by omega)
    rw [show ((0 : Nat) : Int) = 0 from rfl] at e4 e5
    have e6 := c_same (n + 5) (.tup [.int 0, .tup [.int 0]]) (by simp [flatD, flatDs]) (by simp [szD, szDs])
    have h0' : ¬ (P.ps.length : Int) = 0 := by omega
    rw [hb]
    simp only [runFn]
    have xa : execB (Cn (n + 6)) FU bSA [some (.lst (pl .int L)), some (.d (dP P)), some (.d (.int (m : Int))), none, none, none, none, none, none, none, none, none] = .nx [some (.lst (pl .int L)), some (.d (dP P)), some (.d (.int (m : Int))), some (.d (.int (P.ps.length : Int))), some (BL P), none, none, none, none, none, none, none] := by
      rw [hB] at e1 ⊢
      clear e2 e3 e4 e5 e6 f1 f2 f3 f4 f5
      generalize P.ps.map d4 = PS at *
      generalize dP P = D at *
      generalize P.ps.length = mm at *
      simp [bSA, takeL, giveL, lendOf, p3, hn, e1, h0', h0]
    have xb : execB (Cn (n + 6)) FU bSB [some (.lst (pl .int L)), some (.d (dP P)), some (.d (.int (m : Int))), some (.d (.int (P.ps.length : Int))), some (BL P), none, none, none, none, none, none, none] = .ret (.d (.bl true)) [some (.lst (pl .int M2)), some (.d (dP P)), some (.d (.int (m : Int))), some (.d (.int (P.ps.length : Int))), some (BL P), none, z6, y7, y8, some (.d (.int (P.ps.length : Int))), some (.d (.int (P.ps.length : Int))), z11] := by
      clear e1 xa
      rw [hB] at e2 e3 ⊢
      generalize dP P = D at *
      generalize P.ps.length = mm at *
      simp [bSB, takeL, giveL, lendOf, hr, e2, hr3, e3, seqL, f1, f2, f3, f4, f5, e4, e5, e6]
    have xc := (xb_app _ _ bSA bSB _ _ xa).trans xb
    generalize bSA ++ bSB = bS at *
    generalize dP P = D at *
    simp [endC, retC, outA_eq, xc]
end Law

/-! K14m: by hand; the law. -/
namespace Law
open PySem L2 R
open PyProof.Rows hiding St
theorem hand2 : Cn 13 39 [.d (.int 2)] = .ok (.d (.bl true)) [.d (.int 2)] := by kernel_rfl
theorem hand3 : Cn 13 39 [.d (.int 3)] = .ok (.d (.bl true)) [.d (.int 3)] := by kernel_rfl
theorem hand4 : Cn 13 39 [.d (.int 4)] = .ok (.d (.bl true)) [.d (.int 4)] := by kernel_rfl
theorem hand5 : Cn 13 39 [.d (.int 5)] = .ok (.d (.bl true)) [.d (.int 5)] := by kernel_rfl
theorem hand6 : Cn 13 39 [.d (.int 6)] = .ok (.d (.bl true)) [.d (.int 6)] := by kernel_rfl
theorem hand7 : Cn 13 39 [.d (.int 7)] = .ok (.d (.bl true)) [.d (.int 7)] := by kernel_rfl
theorem hand8 : Cn 13 39 [.d (.int 8)] = .ok (.d (.bl true)) [.d (.int 8)] := by kernel_rfl
theorem hand (i : Nat) (h : i < 7) : Cn 13 39 [.d (.int (2 + (i : Int)))] = .ok (.d (.bl true)) [.d (.int (2 + (i : Int)))] := by
  match i, h with
  | 0, _ => exact hand2
  | 1, _ => exact hand3
  | 2, _ => exact hand4
  | 3, _ => exact hand5
  | 4, _ => exact hand6
  | 5, _ => exact hand7
  | 6, _ => exact hand8
def bW1 : List S := [
    .par [3, 4, 5] [(.bin .add (.lit (.int 1)) (.call 21 [.lend 1, (.lit (.int 9))])), (.bin .add (.lit (.int 1)) (.call 21 [.lend 1, (.lit (.int 8))])), (.call 21 [.lend 1, (.lit (.int 10))])],
    .ite (.not (.call 38 [.lend 1, (.call 24 [.lend 1, .lend 3, .lend 4, .lend 5, (.call 21 [.lend 1, (.lit (.int 10))]), (.call 21 [.lend 1, (.lit (.int 4))])]), (.lit (.int 4))])) [
      .ret (.lit (.bl false))] []]
theorem w1_turn (L : List Int) (k : Int) (a0 x2 x3 x4 x5 x6 : Option PV) : ∃ L' y3 y4 y5,
    turnF (Cn 13) FU (.n 2) bW1 (.int k) [a0, some (.lst (pl .int L)), x2, x3, x4, x5, x6] = .nx [a0, some (.lst (pl .int L')), some (.d (.int k)), y3, y4, y5, x6] := by
  obtain ⟨c, L1, e1, _⟩ := c_take 12 L 9
  obtain ⟨r, L2', e2, _⟩ := c_take 12 L1 8
  obtain ⟨h, L3, e3, _⟩ := c_take 12 L2' 10
  obtain ⟨pe, L4, e4, hpe⟩ := draw 12 L3 10 (by omega)
  obtain ⟨ga, L5, e5, hga⟩ := draw 12 L4 4 (by omega)
  obtain ⟨L6, P, e6, hP, _, hN⟩ := k_plan 11 L5 (1 + c) (1 + r) h pe ga (by omega) (by omega)
  obtain ⟨L7, e7⟩ := k_scene 6 P hN (by omega) L6 4 (by omega)
  rw [show ((10 : Nat) : Int) = 10 from rfl] at e4
  rw [show ((4 : Nat) : Int) = 4 from rfl] at e5 e7
  refine ⟨L7, some (.d (.int (1 + c))), some (.d (.int (1 + r))), some (.d (.int h)), ?_⟩
  generalize dP P = D at *
  simp [turnF, bW1, takeL, giveL, lendOf, setL, e1, e2, e3, e4, e5, e6, e7]
theorem w1_loop (L : List Int) (a0 x2 x3 x4 x5 x6 : Option PV) : ∃ L' y2 y3 y4 y5,
    seqR (turnF (Cn 13) FU (.n 2) bW1) 1 3 0 [a0, some (.lst (pl .int L)), x2, x3, x4, x5, x6] = .nx [a0, some (.lst (pl .int L')), y2, y3, y4, y5, x6] := by
  obtain ⟨σ', e, L', y2, y3, y4, y5, rfl⟩ := seqN_inv (f := turnF (Cn 13) FU (.n 2) bW1)
    (fun k τ => ∃ L' y2 y3 y4 y5, τ = [a0, some (.lst (pl .int L')), y2, y3, y4, y5, x6]) 3 0
    [a0, some (.lst (pl .int L)), x2, x3, x4, x5, x6] ⟨L, x2, x3, x4, x5, rfl⟩ fun j τ _ hj ⟨L', y2, y3, y4, y5, hy⟩ => by
      subst hy
      obtain ⟨M, z3, z4, z5, e⟩ := w1_turn L' j a0 y2 y3 y4 y5 x6
      exact ⟨_, .inl e, M, _, z3, z4, z5, rfl⟩
  exact ⟨L', y2, y3, y4, y5, e⟩
def bW2 : List S := [
    .set 6 (.call 20 [.lend 0, (.lit (.int 2)), (.lit (.int 2000))]),
    .ite (.not (.call 38 [.lend 6, (.call 24 [.lend 6, (.lit (.int 40)), (.lit (.int 40)), (.bin .add (.lit (.int 10)) (.call 21 [.lend 6, (.lit (.int 31))])), (.lit (.int 60)), (.lit (.int 10))]), (.lit (.int 4))])) [
      .ret (.lit (.bl false))] []]
theorem w2_run (ns : List Int) (a1 x2 x3 x4 x5 x6 : Option PV) : ∃ y6,
    execB (Cn 13) FU bW2 [some (.d (.scr (ns.map .int))), a1, x2, x3, x4, x5, x6] = .nx [some (.d (.scr (ns.map .int))), a1, x2, x3, x4, x5, y6] := by
  obtain ⟨L, e1⟩ := c_purse 12 ns 2 2000 (by omega)
  obtain ⟨h, L1, e2, _⟩ := c_take 12 L 31
  obtain ⟨L2', P, e3, hP, _, hN⟩ := k_plan 11 L1 40 40 (10 + h) 60 10 (by omega) (by omega)
  obtain ⟨L3, e4⟩ := k_scene 6 P hN (by omega) L2' 4 (by omega)
  rw [show ((2000 : Nat) : Int) = 2000 from rfl] at e1
  rw [show ((60 : Nat) : Int) = 60 from rfl, show ((10 : Nat) : Int) = 10 from rfl] at e3
  rw [show ((4 : Nat) : Int) = 4 from rfl] at e4
  refine ⟨some (.lst (pl .int L3)), ?_⟩
  generalize dP P = D at *
  generalize ns.map Dat.int = NS at *
  simp [bW2, takeL, giveL, lendOf, e1, e2, e3, e4]
theorem law (ns : List Int) (_h : ns.length ≤ 63) : ∃ os, callN irs FU N 40 [.d (.scr (ns.map .int))] = .ok (.d (.bl true)) os := by
  obtain ⟨L, e1⟩ := c_purse 12 ns 0 700 (by omega)
  obtain ⟨L1, y2, y3, y4, y5, e2⟩ := w1_loop L (some (.d (.scr (ns.map .int)))) none none none none none
  obtain ⟨M, e3⟩ := c_purse 12 ns 1 400 (by omega)
  obtain ⟨s, M1, e4, _⟩ := c_take 12 M 7
  obtain ⟨y6, e5⟩ := w2_run ns (some (.lst (pl .int M1))) y2 y3 y4 y5 none
  obtain ⟨c, M2, e6, _⟩ := c_take 12 M1 5
  obtain ⟨r, M3, e7, _⟩ := c_take 12 M2 5
  obtain ⟨h, M4, e8, _⟩ := c_take 12 M3 3
  obtain ⟨M5, P, e9, hP, _, hN⟩ := k_plan 11 M4 (5 + c) (3 + r) (3 + h) 12 3 (by omega) (by omega)
  obtain ⟨M6, e10⟩ := k_scene 6 P hN (by omega) M5 6 (by omega)
  obtain ⟨i, M7, e11, hi⟩ := draw 12 M6 7 (by omega)
  have e12 := hand i hi
  rw [show ((700 : Nat) : Int) = 700 from rfl] at e1
  rw [show ((400 : Nat) : Int) = 400 from rfl] at e3
  rw [show ((12 : Nat) : Int) = 12 from rfl, show ((3 : Nat) : Int) = 3 from rfl] at e9
  rw [show ((6 : Nat) : Int) = 6 from rfl] at e10
  rw [show ((7 : Nat) : Int) = 7 from rfl] at e11
  have hr3 : itsOf .range [.int 3] = some (.r 0 1 3) := rfl
  refine ⟨[.d (.scr (ns.map .int))], ?_⟩
  show runFn (Cn 13) FU f_law _ = _
  have hb : f_law = ⟨1, 7, [], [.set 1 (.call 20 [.lend 0, (.lit (.int 0)), (.lit (.int 700))]),
  .for_ .range [(.lit (.int 3))] (.n 2) bW1,
  .set 1 (.call 20 [.lend 0, (.lit (.int 1)), (.lit (.int 400))]),
  .ite (.cmp .eq (.call 21 [.lend 1, (.lit (.int 7))]) (.lit (.int 3))) bW2 [],
  .set 3 (.bin .add (.lit (.int 5)) (.call 21 [.lend 1, (.lit (.int 5))])),
  .ite (.not (.call 38 [.lend 1, (.call 24 [.lend 1, .lend 3, (.bin .add (.lit (.int 3)) (.call 21 [.lend 1, (.lit (.int 5))])), (.bin .add (.lit (.int 3)) (.call 21 [.lend 1, (.lit (.int 3))])), (.lit (.int 12)), (.lit (.int 3))]), (.lit (.int 6))])) [
    .ret (.lit (.bl false))] [],
  .ret (.call 39 [(.bin .add (.lit (.int 2)) (.call 21 [.lend 1, (.lit (.int 7))]))])]⟩ := rfl
  rw [hb]
  simp only [runFn]
  generalize dP P = D at *
  generalize ns.map Dat.int = NS at *
  by_cases hs : s = 3
  · simp [endC, retC, outA_eq, takeL, giveL, lendOf, e1, hr3, e2, e3, e4, hs, e5, e6, e7, e8, e9, e10, e11, e12]
  · simp [endC, retC, outA_eq, takeL, giveL, lendOf, e1, hr3, e2, e3, e4, hs, e6, e7, e8, e9, e10, e11, e12]
end Law

open PySem PySem.W PySem.Calls PyProof.Rows
theorem PySem.Challenge.cw_roomtopass_k14_chains_holds : PySem.Challenge.rw_roomtopass_k14_chains.Holds := by
  w_on; o_law
  refine HandSHeadRun.head_any (r := Law.Rw) (q := view Law.Rw.prog [52]) (H := Law.hk) (ob := Law.ob) (M := 4000)
    (loose := Law.loose) (d := HandSHeadRun.topDef Law.Rw.prog 52) (kwd := []) Law.ob_eq (by kernel_rfl) (fun s => by kernel_rfl)
    Law.run (by kernel_rfl) (by kernel_rfl) (by kernel_rfl) (by rfl) (by first | assumption | decide +kernel) (by decide +kernel)
    ⟨rfl, rfl, rfl, rfl, rfl, by decide +kernel⟩ ?hw ?hc
  case hw => w_witness2
  case hc =>
    refine L2.walk_ofE (l := PySem.Challenge.rw_roomtopass_k14_chains) (n := 63) (k := Law.N + 3) (x := "script") (CX := L2.CX0) rfl
      (by decide) (by kernel_rfl) ⟨rfl, by decide, by decide⟩ ?F (fun _ _ _ _ z => z)
    intro w mg fa h Y G hmg0
    have e : (HandSHeadRun.topDef Law.Rw.prog 52).name = ("law" : PySem.Str) := by kernel_rfl
    rw [e] at hmg0
    exact R.law_F (fu := Law.FU) (n := Law.N) (i := 40) (pd := Law.p_law) Law.irs_ok Law.allB Law.allBi Law.allK Law.fit (by rfl) (by rfl)
      (by rfl) rfl Law.law w mg fa h Y G hmg0

