import PyProof.Rows.All
import Wide.All
import OpenK.AllK
import Wide.FinOn
import KE.SortData
import KE.DataMinMax
import KE.KRevSl
import HandS.List
import PyProof.SumAny
import PyProof.ListOps
import HandS.ForMost
import HandS.Wide
import HandS.Gcd
import HandS.Deep
import HandS.IsInst
import HandS.TupAny
import HandS.SortInts
import HandS.SortKw
import HandS.TupLe
import HandS.Style
import PyProof.P3In
import HandS.Comp
import HandS.Walk
import HandS.Star
import HandS.Zip
import HandS.Dict
import HandS.Defaults
import HandS.Head0
import HandS.Head1
import HandS.Head2
import HandS.HeadEnd
import HandS.HeadHook1
import HandS.HeadHook2
import HandS.HeadHook3
import HandS.HeadHook4
import HandS.Head3
import PySem.Challenge.RW_otherdiagonal_k14_whole_the_round_the_fl
-- ZS
section
set_option Elab.async false
set_option linter.all false
set_option maxRecDepth 100000
set_option maxHeartbeats 4000000
/-! Rows of tuples sorted, empty ones among them; sorted(tuple); min of two. -/
namespace PySem.W
open PySem PySem.SeqAt PySem.Calls PyProof.Rows
section
variable {prog : Program} {w : World} {A : Around} {E : Value → Shared → Prop} {s : Shared}
theorem z_call_tuple_lt {Q : Value → Shared → Prop} {l b : Addr} {items items2 : Array Value} {e r : Nat → Bool} (hl : s.heap.IsTuple l items) (hb : s.heap.IsTuple b items2)
    (he : ∀ j (h1 : j < items.size) (h2 : j < items2.size), EqAt A.in1 s items[j] items2[j] (e j)) (hr : ∀ j (h1 : j < items.size) (h2 : j < items2.size), e j = false → RcLt A.in1 s items[j] items2[j] (r j))
    (h : Q (.bool (firstLt e r (decide (items.size < items2.size)) (List.range (min items.size items2.size)))) s) : wpAny (model prog w) A (call (.builtin "tuple.__lt__") [.ref l, .ref b]) Q E s := by
  obtain ⟨⟨cls, dd, data, sl⟩, ho, hc, n, hd⟩ := id hl
  obtain ⟨⟨cls2, dd2, data2, sl2⟩, ho2, hc2, n2, hd2⟩ := id hb
  simp only at hc hd hc2 hd2
  subst hc hd hc2 hd2
  exact call_meets F.slot_tuple_lt ⟨_, ho, rfl⟩ F.entry_tuple_lt (F.args_tuple_lt_2 _ _) (SeqAt.tuple_ltAt l b items items2 n n2 dd dd2 sl sl2 e r) ⟨ho, ho2, he, hr, h⟩
theorem z_oneLt_tuple {xs ys : List PyData} {a b : Value} {as bs : List Addr} {Q : Bool → Shared → Prop} (ra : Reads s.heap a (.tuple xs) as) (rb : Reads s.heap b (.tuple ys) bs) (hal : alikeAll xs ys = true)
    (hu : A.units + min (PyData.tuple xs).depth (PyData.tuple ys).depth < cLine) (hq : Q (dataLt (.tuple xs) (.tuple ys)) s) : wpAny (model prog w) A (oneLt' true a b) Q E s := by
  cases ra with
  | @tuple l o vs n _ as₁ h1 h2 h3 h4 =>
    cases rb with
    | @tuple l' o' vs' n' _ bs₁ k1 k2 k3 k4 =>
      have n1 : vs.size = xs.length := by simpa using ReadsAll.length _ _ _ h4
      have n2 : vs'.size = ys.length := by simpa using ReadsAll.length _ _ _ k4
      rw [dataLt_tuple, ← firstLt_toks xs ys hal, ← n1, ← n2] at hq
      rw [oneLt'_eq]
      simp only [if_true]
      refine wpAny_bind (wpAny_cRoomFor (room_here hu) ?_)
      refine wpAny_bind (wpAny_callSpecialIfBound?_slot (T := "tuple") ⟨_, h1, h2⟩ F.slot_tuple_lt (z_call_tuple_lt (e := pairEq xs ys) (r := fun j => dataLt (xs.getD j .none) (ys.getD j .none)) ⟨_, h1, h2, _, h3⟩ ⟨_, k1, k2, _, k3⟩ (fun j j1 j2 => ?_) (fun j j1 j2 hj => ?_) ?_))
      · have := eqAt_alikeAll xs ys A.in1 s vs.toList vs'.toList _ _ h4 k4 hal (room_in hu) j (by simpa using j1) (by simpa using j2)
        simpa using this
      · have := rcLt_alikeAll xs ys A.in1 s vs.toList vs'.toList _ _ h4 k4 hal (room_in hu) j (by simpa using j1) (by simpa using j2) hj
        simpa using this
      · exact wpAny_truthy_bool hq
/-- the first items of tuples -/
theorem z_firsts {M : Model} : ∀ {vs : List Value} {ds : List PyData}, EachIs (fun v d => ∃ as, Reads s.heap v d as) vs ds → (∀ d, d ∈ ds → ∃ xs, d = .tuple xs) → ∃ fs : List (Option Value), fs.length = vs.length ∧ (∀ i : Nat, fs[i]? = some none ↔ ds[i]? = some (.tuple [])) ∧ ∀ {Q : List (Option Value) → Shared → Prop}, Q fs s → wpAny M A (vs.mapM firstOfTuple') Q E s
  | _, _, .nil, _ => ⟨[], rfl, fun i => by simp, fun h => by rw [List.mapM_nil]; exact wpAny_pure h⟩
  | _, _, .cons (a := v) (b := d) (as := vs) (bs := ds) ⟨as, r⟩ t, ht => by
    obtain ⟨fs, h1, h2, h3⟩ := z_firsts (M := M) t fun d hd => ht d (List.mem_cons_of_mem _ hd)
    obtain ⟨xs, rfl⟩ := ht d (List.mem_cons_self ..)
    cases r with
    | @tuple a o its n _ _ ho hc hd hr =>
      refine ⟨its[0]? :: fs, by simp [h1], fun i => ?_, fun {Q} h => ?_⟩
      · cases i with
        | zero =>
          simp only [List.getElem?_cons_zero, Option.some.injEq]
          cases q : its.toList with
          | nil =>
            rw [q] at hr
            cases hr
            have : its = #[] := by simpa using q
            subst this
            simp
          | cons f fr =>
            rw [q] at hr
            cases hr with
            | cons r1 r2 =>
              have hf : its[0]? = some f := by rw [← Array.getElem?_toList, q]; rfl
              rw [hf]
              simp
        | succ i => simpa using h2 i
      · rw [List.mapM_cons]
        refine wpAny_bind ?_
        rw [kas_first_eq]
        refine wpAny_bind (Looks.here (show Looks M s.heap (typeOf (.ref a)) o.cls from (Looks.ld ho).andThen .now) ?_)
        rw [hc, if_neg (by first | decide | simp)]
        refine wpAny_bind (listItems_at ho hd (wpAny_pure ?_))
        exact wpAny_bind (h3 (Q := fun bs s' => wpAny M A (pure (its[0]? :: bs)) Q E s') (wpAny_pure h))
/-- tuples, an empty one among them -/
theorem z_sorts_tups {vs : List Value} {ds : List PyData} (e : EachIs (fun v d => ∃ as, Reads s.heap v d as) vs ds) (hal : AllAlike ds) (ht : ∀ d, d ∈ ds → ∃ xs, d = .tuple xs) (hu : ∀ d, d ∈ ds → A.units + d.depth < cLine) : SortsAt prog w A s (dataKind s.heap ds) vs := by
  by_cases hne : ∀ d, d ∈ ds → ∃ x r, d = .tuple (x :: r)
  · exact SortsAt.data e hal (.inl hne) hu
  have room : ∀ {d d' : PyData}, d ∈ ds → A.units + min d.depth d'.depth < cLine := fun {d d'} hd => Nat.lt_of_le_of_lt (Nat.add_le_add_left (Nat.min_le_left _ _) _) (hu d hd)
  have hem : ∃ i : Nat, ds[i]? = some (.tuple []) := by
    apply Classical.byContradiction
    intro hno
    apply hne
    intro d hd
    obtain ⟨xs, rfl⟩ := ht d hd
    cases xs with
    | nil =>
      obtain ⟨i, hi, q⟩ := List.getElem_of_mem hd
      exact absurd ⟨i, by rw [List.getElem?_eq_getElem hi, q]⟩ hno
    | cons x r => exact ⟨x, r, rfl⟩
  have len := e.length
  refine ⟨fun v hv => ?_, ?_⟩
  · obtain ⟨d, hd, as, r⟩ := e.left v hv
    exact ⟨_, dataKind_some hal hd r⟩
  · have gen : H.LtAt prog w A s (dataKind s.heap ds) general' := by
      intro E x y a b Q ha hb hq
      obtain ⟨d, as, hd, ra, rfl⟩ := dataKind_inv ha
      obtain ⟨d', as', hd', rb, rfl⟩ := dataKind_inv hb
      have hn : d ≠ .none := by obtain ⟨xs, rfl⟩ := ht d hd; exact fun z => nomatch z
      show wpAny (model prog w) A (oneLt' false x y) Q E s
      exact oneLt_alike (fun z => nomatch z) ra rb (hal d hd d' hd') hn (room hd) hq
    have one : H.LtAt prog w A s (dataKind s.heap ds) oneType' := by
      intro E x y a b Q ha hb hq
      obtain ⟨d, as, hd, ra, rfl⟩ := dataKind_inv ha
      obtain ⟨d', as', hd', rb, rfl⟩ := dataKind_inv hb
      have hdd := hal d hd d' hd'
      have hroom := room (d' := d') hd
      obtain ⟨xs, rfl⟩ := ht d hd
      obtain ⟨ys, rfl⟩ := ht d' hd'
      rw [keyLt'_oneType]
      exact z_oneLt_tuple ra rb (by simpa [alike] using hdd) hroom hq
    have kind : ∀ (kd : SortKind), (ds[0]? = some (.tuple []) → kd = oneType') → (¬ ds[0]? = some (.tuple []) → kd = general') → ∀ (E : Value → Shared → Prop) {Q : SortKind → Shared → Prop}, 2 ≤ vs.length → Q kd s → wpAny (model prog w) A (keyKind' vs.toArray) Q E s := fun kd c1 c2 E Q h2 hq => by
      obtain ⟨fs, f1, f2, f3⟩ := z_firsts (M := model prog w) (A := A) (E := E) e ht
      obtain ⟨i, hi⟩ := hem
      have hall : ¬ (fs.toArray.all fun x => x.isSome) = true := by
        intro z
        have q := (f2 i).mpr hi
        have := List.all_eq_true.mp (by simpa using z) none (List.mem_of_getElem? q)
        cases this
      rw [keyKind'_eq, List.mapM_toArray, map_eq_pure_bind]
      refine wpAny_bind (wpAny_bind (f3 (wpAny_pure ?_)))
      rw [if_neg hall]
      have h0 : fs.length = vs.length := f1
      by_cases hz : ds[0]? = some (.tuple [])
      · rw [c1 hz] at hq
        have q0 := (f2 0).mpr hz
        have e0 : fs.toArray[0]? = some none := by simpa using q0
        rw [e0]
        simp only [Option.bind_some, id_eq, Option.isSome_none, Bool.false_eq_true, if_false]
        obtain ⟨v₁, v₂, rest, rfl⟩ : ∃ v₁ v₂ rest, vs = v₁ :: v₂ :: rest := by
          match vs, h2 with
          | [], h2 => simp at h2
          | [_], h2 => simp at h2
          | v₁ :: v₂ :: rest, _ => exact ⟨v₁, v₂, rest, rfl⟩
        rw [oneTypeOnly'_eq, List.mapM_toArray, map_eq_pure_bind]
        refine wpAny_bind (wpAny_bind (wpAny_bind (kas_mapM (r := Value.type "tuple") _ (fun v hv Q' hq => ?_) (wpAny_pure ?_))))
        · obtain ⟨d, hd, as, r⟩ := e.left v hv
          obtain ⟨xs, rfl⟩ := ht d hd
          exact (looks_reads r).here hq
        · have hall2 : ((List.map (fun _ => Value.type "tuple") (v₁ :: v₂ :: rest)).toArray.all fun x => x == Value.type "tuple") = true := by
            simp only [List.all_toArray, List.all_map, List.all_eq_true]
            intro _ _
            rfl
          have h00 : (List.map (fun _ => Value.type "tuple") (v₁ :: v₂ :: rest)).toArray[0]? = some (Value.type "tuple") := by simp
          rw [h00]
          simp only [hall2, if_true]
          exact wpAny_pure (wpAny_pure hq)
      · rw [c2 hz] at hq
        have hl0 : 0 < fs.length := by omega
        have e0 : ∃ x, fs[0]? = some (some x) := by
          rw [List.getElem?_eq_getElem hl0]
          cases q : fs[0] with
          | none => exact absurd ((f2 0).mp (by rw [List.getElem?_eq_getElem hl0, q])) hz
          | some x => exact ⟨x, rfl⟩
        obtain ⟨x, e0⟩ := e0
        have e1 : fs.toArray[0]? = some (some x) := by simpa using e0
        rw [e1]
        simp only [Option.bind_some, id_eq, Option.isSome_some, if_true]
        exact wpAny_pure hq
    by_cases hz : ds[0]? = some (.tuple [])
    · exact ⟨oneType', one, fun h2 E Q hq => kind oneType' (fun _ => rfl) (fun z => absurd hz z) E h2 hq⟩
    · exact ⟨general', gen, fun h2 E Q hq => kind general' (fun z => absurd z hz) (fun _ => rfl) E h2 hq⟩
/-- data that can be sorted -/
def ZSortable (ds : List PyData) : Prop := (∀ d, d ∈ ds → ∃ xs, d = .tuple xs) ∨ ∀ d, d ∈ ds → d ≠ .none ∧ ∀ xs, d ≠ .tuple xs
theorem z_sorts {vs : List Value} {ds : List PyData} (e : EachIs (fun v d => ∃ as, Reads s.heap v d as) vs ds) (hal : AllAlike ds) (hk : ZSortable ds) (hu : ∀ d, d ∈ ds → A.units + d.depth < cLine) : SortsAt prog w A s (dataKind s.heap ds) vs := by
  rcases hk with h | h
  · exact z_sorts_tups e hal h hu
  · exact SortsAt.data e hal (.inr h) hu
/-- a list or a tuple -/
def ZSeq (h : Heap) (l : Addr) (vs : List Value) : Prop := h.IsList l vs.toArray ∨ IsTup h l vs.toArray
theorem z_collect {l : Addr} {vs : List Value} {Q : List Value → Shared → Prop} (hl : ZSeq s.heap l vs)
    (h : Q vs { s with heap := (s.heap.push (seqObj "list" #[] 0)).update s.heap.objs.size (Obj.mapSeq (· ++ vs.toArray)) }) (hsz : vs.length ≤ sizeLine) :
    wpAny (model prog w) A (collect (.ref l)) Q E s := by
  rcases hl with hl | hl
  · exact collect_list hl h hsz
  obtain ⟨o, ho, hc, n, hd⟩ := id hl
  unfold collect
  refine wpAny_bind (wpAny_runValue (codeAny_builtin entry_proto_collect' ?_))
  show wpAny _ _ (do again (.builtin "list.__iadd__" ⟨[← newList [], .ref l], []⟩)) _ _ s
  refine wpAny_bind (wpAny_newList (wpAny_pure ⟨Code.quiet_builtin _ (by decide +kernel), codeAny_builtin entry_list_iadd' ?_⟩))
  show wpAny _ _ (Builtin.List.listExtendWith (.ref s.heap.objs.size) (.ref l) (.ref s.heap.objs.size)) _ _ { s with heap := s.heap.push (seqObj "list" #[] 0) }
  unfold Builtin.List.listExtendWith
  have ho' : (s.heap.push (seqObj "list" #[] 0)).get? l = some o := Heap.get?_push_of_some _ ho
  refine wpAny_bind (wpAny_typeOf (T := "tuple") ⟨o, ho', hc⟩ ?_)
  have ht : (Value.type "tuple" == Value.type "tuple") = true := by rfl
  rw [if_pos (by rw [ht]; simp)]
  refine wpAny_bind (listItems_at ho' hd ?_)
  refine wpAny_bind (listItems_at (xs := #[]) (n := 0) (Heap.get?_push_size _ rfl) rfl ?_)
  rw [if_neg (by simp)]
  refine wpAny_bind (listUpdate_at (xs := #[]) (n := 0) (Heap.get?_push_size _ rfl) rfl ?_ (Nat.zero_le _) (by show (#[] ++ vs.toArray).size ≤ sizeLine + 1; simp only [Array.size_append, List.size_toArray, List.length_nil]; omega))
  refine wpAny_pure ?_
  show wpAny (model prog w) A (do
      let o ← load s.heap.objs.size
      match o.data with
      | .seq xs _ => pure xs.toList
      | _ => unsupported "internal:collect") Q E { s with heap := (s.heap.push (seqObj "list" #[] 0)).update s.heap.objs.size (Obj.mapSeq (· ++ vs.toArray)) }
  refine wpAny_bind (wpAny_load (get?_update_seq (Heap.get?_push_size _ rfl) _) ?_)
  show wpAny _ _ (pure ((#[] : Array Value) ++ vs.toArray).toList) Q E _
  rw [show ((#[] : Array Value) ++ vs.toArray).toList = vs by simp]
  exact wpAny_pure h
theorem z_sorted_vals {κ : PyProof.Rows.KeyKind} {l : Addr} {vs : List Value} {Q : Value → Shared → Prop} (hl : ZSeq s.heap l vs) (S : SortsAt prog w A.in1.in1 { s with heap := sortingHeap (copyHeap s.heap vs) (s.heap.objs.size + 1) vs } κ vs) (hL : vs.length ≤ sizeLine)
    (h : Q (.ref (s.heap.objs.size + 1)) { s with heap := sortedAll s.heap vs (sortVals κ false vs vs).toArray }) : wpAny (model prog w) A (call (.builtin "sorted") [.ref l]) Q E s := by
  refine call_function_entry_kw kind_sorted plain_sorted entry_sorted (args_sorted1 _) ?_
  unfold Builtin.«sorted»
  refine wpAny_bind (m := checkCount "sorted" 1 1 _) (wpAny_pure ?_)
  refine wpAny_bind (z_collect hl ?_ hL)
  refine wpAny_bind (wpAny_newList ?_ hL)
  have hsz : ((s.heap.push (seqObj "list" #[] 0)).update s.heap.objs.size (Obj.mapSeq (· ++ vs.toArray))).objs.size = s.heap.objs.size + 1 := by
    rw [Heap.size_update, size_push']
  show wpAny _ _ _ _ _ { s with heap := copyHeap s.heap vs }
  rw [hsz]
  refine wpAny_bind (wpAny_holding (wpAny_call_entry_kw slot_list_sort ⟨_, copyHeap_at s.heap vs, rfl⟩ entry_list_sort ?body (args_list_sort _)))
  case body =>
    show wpAny (model prog w) A.in1.in1 (Builtin.«list.sort» ⟨[.ref (s.heap.objs.size + 1)], []⟩) _ _ _
    refine wpAny_mono (list_sort_vals (E := E) (P := fun f s' => f = .done (.ret .none) ∧ Q (.ref (s.heap.objs.size + 1)) s') (s := { s with heap := copyHeap s.heap vs }) (copyHeap_at s.heap vs) S hL ⟨rfl, h⟩) (fun f s' hf => ?_) fun _ _ e => e
    obtain ⟨rfl, hq⟩ := hf
    exact ⟨_, rfl, wpAny_pure ⟨_, rfl, hq⟩⟩
variable {β : Type} {vs : List Value} {bs : List β} {enc : β → PyData} {R : Value → β → Prop}
/-- sorted(xs), xs a list or a tuple -/
theorem z_sorted_data {l : Addr} {Q : Value → Shared → Prop} (hl : ZSeq s.heap l vs) (e : EachIs R vs bs) (er : EachIs (fun v b => ∃ as, Reads s.heap v (enc b) as) vs bs) (hal : AllAlike (bs.map enc)) (hk : ZSortable (bs.map enc)) (hL : bs.length ≤ sizeLine)
    (hu : ∀ b, b ∈ bs → A.units + 2 + (enc b).depth < cLine) (h : ∀ out, out.length = bs.length → EachIs R out (bs.mergeSort (dataLe false enc)) → Q (.ref (s.heap.objs.size + 1)) { s with heap := sortedAll s.heap vs (List.toArray out) }) :
    wpAny (model prog w) A (call (.builtin "sorted") [.ref l]) Q E s := by
  have er' : EachIs (fun v b => ∃ as, Reads (sortingHeap (copyHeap s.heap vs) (s.heap.objs.size + 1) vs) v (enc b) as) vs bs := er.mono fun _ _ ⟨as, r⟩ => ⟨as, PyProof.Rows.Reads.keeps (fun _ _ => sorting_copy_old) r⟩
  exact z_sorted_vals hl (z_sorts (s := { s with heap := sortingHeap (copyHeap s.heap vs) (s.heap.objs.size + 1) vs }) (each_map (R := fun v d => ∃ as, Reads (sortingHeap (copyHeap s.heap vs) (s.heap.objs.size + 1) vs) v d as) enc er') hal hk (bound_map hu)) (by rw [e.length]; exact hL)
    (h _ (by rw [sortVals_length false rfl]; exact e.length) (sortVals_data false e er' hal))
/-- the place of the first least -/
def zLeast (ds : List PyData) : Nat := argBest (fun i j => dataLt (ds.getD i .none) (ds.getD j .none)) (ds.length - 1)
theorem z_min_default {l : Addr} {vs : Array Value} {xs : List PyData} {as : List Addr} {d : Value} {Q : Value → Shared → Prop} (hh : A.handled = none) (hl : s.heap.IsList l vs) (hr : ReadsAll s.heap vs.toList xs as) (ha : AlikeAll xs) (hu : A.units + 1 + PyData.depthAll xs < cLine)
    (h0 : xs = [] → ∀ h' tk, (∀ b o, s.heap.get? b = some o → h'.get? b = some o) → Q d { s with heap := h', toks := tk })
    (h : ∀ v h' tk, vs[zLeast xs]? = some v → (∀ b o, s.heap.get? b = some o → h'.get? b = some o) → Q v { s with heap := h', toks := tk }) :
    wpAny (model prog w) A (call (.builtin "min") [.ref l] [(Str.ofString "default", d)]) Q E s := by
  have hn : vs.size = xs.length := by simpa using SeqAt.ReadsAll.length _ _ _ hr
  refine call_min_walkD (iter_listW (A := A.in1) hh hl fun s₂ e W st hfp hw hk => ?_)
  refine ⟨_, _, _, _, _, _, _, s.heap, (fun i j => dataLt (xs.getD i .none) (xs.getD j .none)), rfl, W, st, hfp, hw, hk, fun hz s' m => ?_, fun hp => ⟨cmpIn_lt (A := A.in1) hr ha (by show A.units + 1 + _ < _; exact hu), fun v s' hP m => ?_⟩⟩
  · obtain ⟨h', tk, rfl, hk'⟩ := moved_old e rfl m
    exact h0 (List.eq_nil_of_length_eq_zero (by omega)) h' tk hk'
  · obtain ⟨h', tk, rfl, hk'⟩ := moved_old e rfl m
    rw [hn] at hP
    exact h v h' tk hP hk'
theorem z_min_two {a b : Value} {x y : PyData} {as bs : List Addr} {Q : Value → Shared → Prop} (hh : A.handled = none) (ra : Reads s.heap a x as) (rb : Reads s.heap b y bs) (ha : AlikeAll [x, y]) (hu : A.units + 1 + PyData.depthAll [x, y] < cLine)
    (h : ∀ h' tk, (∀ b o, s.heap.get? b = some o → h'.get? b = some o) → Q (if dataLt y x = true then b else a) { s with heap := h', toks := tk }) :
    wpAny (model prog w) A (call (.builtin "min") [a, b]) Q E s := by
  have hname : (toString "min" ++ toString ".loop" : String) = "min.loop" := by decide
  refine call_function_tree F.kind_min F.plain_min F.entry_min (F.args_min2 _ _) ?_
  show wpAny _ A.in1 (Builtin.Builtins.bindParams "min" ["key", "default"] 0 ⟨[], []⟩ >>= _) _ _ s
  refine wpAny_bind (wpAny_of_eq (show Builtin.Builtins.bindParams "min" ["key", "default"] 0 ⟨[], []⟩ = pure [none, none] from rfl) ?_)
  show wpAny _ A.in1 (newTuple [a, b] >>= _) _ _ s
  refine wpAny_bind (wpAny_newObj_type ?_)
  have hT : (s.heap.push { cls := .type "tuple", data := .seq #[a, b] }).IsTuple s.heap.objs.size #[a, b] := ⟨_, Heap.get?_push_size _ rfl, rfl, 0, rfl⟩
  have hr : ReadsAll (s.heap.push { cls := .type "tuple", data := .seq #[a, b] }) (#[a, b] : Array Value).toList [x, y] (as ++ (bs ++ [])) :=
    .cons (Reads.keeps (fun _ _ e => Heap.get?_push_of_some _ e) ra) (.cons (Reads.keeps (fun _ _ e => Heap.get?_push_of_some _ e) rb) .nil)
  refine wpAny_bind (iter_tupleW (A := A.in1) (s := { s with heap := s.heap.push { cls := .type "tuple", data := .seq #[a, b] } }) hh hT fun s₂ e W st hfp hw hk => ?_)
  refine wpAny_bind (wpAny_newObj_type ?_)
  have hSf : s₂.heap.objs.size ∉ _ := fun hm => Nat.lt_irrefl _ (hfp _ hm)
  rw [hname]
  refine wpAny_pure ⟨plainId_quiet F.plain_min_loop _, codeAny_min_loop_firstH W _ hw _ (cmpIn_lt (A := A.in1) (s := { s with heap := s.heap.push { cls := .type "tuple", data := .seq #[a, b] } }) hr ha (by show A.units + 1 + _ < _; exact hu)) s₂.heap.objs.size hSf (fresh_in hk) _ (Nat.succ_pos _) (fun b o e => Heap.get?_push_of_some _ (hk b o e)) (W.frame 0 s₂ _ s₂.toks st (Nat.le_refl _) fun b _ o e => Heap.get?_push_of_some _ e) (Heap.get?_push_size _ rfl) fun v s' hP hm => ?_⟩
  have hm' := Moved.drop_new (tk := s₂.toks) hm (Nat.le_refl _)
  obtain ⟨h', tk, rfl, hk'⟩ := moved_old e rfl hm'
  have hv : v = if dataLt y x = true then b else a := by
    by_cases hyx : dataLt y x = true
    · have e1 : argBest (fun i j => dataLt ([x, y].getD i .none) ([x, y].getD j .none)) (2 - 1) = 1 := by simp [argBest, hyx]
      have : (#[a, b] : Array Value)[argBest (fun i j => dataLt ([x, y].getD i .none) ([x, y].getD j .none)) (2 - 1)]? = some v := hP
      rw [e1] at this
      rw [if_pos hyx]
      simpa using this.symm
    · have e1 : argBest (fun i j => dataLt ([x, y].getD i .none) ([x, y].getD j .none)) (2 - 1) = 0 := by simp [argBest, hyx]
      have : (#[a, b] : Array Value)[argBest (fun i j => dataLt ([x, y].getD i .none) ([x, y].getD j .none)) (2 - 1)]? = some v := hP
      rw [e1] at this
      rw [if_neg hyx]
      simpa using this.symm
  rw [hv]
  exact h h' tk fun c o q => hk' c o (Heap.get?_push_of_some _ q)
/-! ### t[::-1] -/
theorem z_adjust (n : Nat) : Builtin.Slice.sliceAdjust none none (-1) (n : Int) = ((n : Int) - 1, -1) := rfl
theorem z_places (n : Nat) : Builtin.Slice.slicePlaces ((n : Int) - 1) (-1) (-1) = n := by
  unfold Builtin.Slice.slicePlaces
  have h1 : ¬ ((-1 : Int) > 0) := by decide
  simp only [h1, if_false]
  by_cases h : (n : Int) - 1 > -1
  · rw [if_pos h]
    rw [show (- -1 : Int) = 1 by decide, Int.ediv_one]
    omega
  · rw [if_neg h]
    omega
theorem z_sliceApplied {sl : Addr} {vs : Value} {n : Nat} {Q : Int × Int × Nat → Shared → Prop} (hs : s.heap.IsSliceOf sl .none .none vs) (ps : IsPart vs (some (-1)))
    (h : Q ((n : Int) - 1, -1, n) s) : wpAny (model prog w) A (Builtin.Slice.sliceApplied (.ref sl) (pure (n : Int))) Q E s := by
  obtain ⟨os, hos, hcs, hds⟩ := id hs
  unfold Builtin.Slice.sliceApplied Builtin.Slice.sliceFields
  refine wpAny_bind (wpAny_bind (wpAny_field hos hds (x := .none) rfl (wpAny_bind (wpAny_field hos hds (x := .none) rfl (wpAny_bind (wpAny_field hos hds (x := vs) rfl (wpAny_pure ?_)))))))
  refine wpAny_bind (HT.slicePart_ ps ?_)
  show wpAny _ _ (if ((-1 : Int) == 0) = true then _ else _) _ _ s
  rw [if_neg (by decide)]
  refine wpAny_bind (slicePart_none (wpAny_bind (slicePart_none (wpAny_bind (wpAny_pure ?_)))))
  show wpAny _ _ (match Builtin.Slice.sliceAdjust none none (-1) (n : Int) with | (lo, hi) => pure (lo, (-1 : Int), Builtin.Slice.slicePlaces lo hi (-1))) _ _ s
  rw [z_adjust]
  show wpAny _ _ (pure ((n : Int) - 1, (-1 : Int), Builtin.Slice.slicePlaces ((n : Int) - 1) (-1) (-1))) _ _ s
  rw [z_places]
  exact wpAny_pure h
theorem fm_congr {α γ : Type} {f g : α → Option γ} : ∀ (l : List α), (∀ x ∈ l, f x = g x) → l.filterMap f = l.filterMap g
  | [], _ => rfl
  | x :: l, h => by
    have h1 := h x List.mem_cons_self
    have h2 := fm_congr l fun y hy => h y (List.mem_cons_of_mem _ hy)
    simp only [List.filterMap_cons, h1, h2]
theorem z_pick (xs : Array Value) : ((List.range xs.size).filterMap fun (m : Nat) => xs[(((xs.size : Int) - 1) + (m : Int) * (-1)).toNat]?).toArray = xs.toList.reverse.toArray := by
  congr 1
  rw [← krv_all xs, ← List.filterMap_reverse, ← krv_range, List.filterMap_map]
  refine fm_congr _ fun m hm => ?_
  have := List.mem_range.mp hm
  simp only [Function.comp]
  congr 1
  omega
theorem z_getItem_tuple_rev {t sl : Addr} {items : Array Value} {vs : Value} {Q : Value → Shared → Prop} (ht : IsTup s.heap t items) (hs : s.heap.IsSliceOf sl .none .none vs) (ps : IsPart vs (some (-1)))
    (h : Q (.ref s.heap.objs.size) { s with heap := s.heap.push { cls := .type "tuple", data := .seq items.toList.reverse.toArray } }) (hsz : items.size ≤ sizeLine) : wpAny (model prog w) A (getItem (.ref t) (.ref sl)) Q E s := by
  have htake : sizeOk (.seq items.toList.reverse.toArray) := by
    show items.toList.reverse.toArray.size ≤ sizeLine
    rw [List.size_toArray, List.length_reverse, Array.length_toList]
    exact hsz
  obtain ⟨os, hos, hcs, hds⟩ := id hs
  have hTs : s.TypeIs (.ref sl) "slice" := ⟨os, hos, hcs⟩
  unfold getItem
  try with_reducible refine wpAny_holding ?_
  first | refine wpAny_bind (wpAny_pure ?_) | skip
  refine wpAny_bind (wpAny_sequenceKey ht.typeIs (by decide) ?_)
  refine wpAny_bind (wpAny_callSpecial?_slot (name := Str.ofString "__getitem__") ht.typeIs PyProof.Rows.slot_tuple_getitem
    (wpAny_call_entry PyProof.Rows.slot_tuple_getitem ht.typeIs entry_tuple_getitem ?_ (args_tuple_getitem _ _)))
  show wpAny _ _ (Builtin.Tuple.tupleItemsOf (.ref t) >>= _) _ _ s
  refine wpAny_bind (tupleItemsOf_ ht ?_)
  refine wpAny_bind (wpAny_typeOf hTs ?_)
  rw [if_pos (by decide)]
  refine wpAny_bind (z_sliceApplied hs ps ?_)
  have hno : ¬ (((items.size : Int) - 1 == 0 && (-1 : Int) == 1 && items.size == items.size) = true) := by
    intro q
    rw [Bool.and_eq_true, Bool.and_eq_true] at q
    exact absurd q.1.2 (by decide)
  show wpAny _ _ (if ((items.size : Int) - 1 == 0 && (-1 : Int) == 1 && items.size == items.size) = true then _ else _) _ _ s
  rw [if_neg hno, z_pick]
  first
    | exact wpAny_bind (m := Builtin.Tuple.tupleExact _) (wpAny_newObj_type (wpAny_pure ⟨_, rfl, wpAny_pure h⟩) htake)
    | exact wpAny_bind (m := Builtin.Tuple.tupleExact _) (wpAny_newObj_type (wpAny_bind (wpAny_pure (wpAny_pure ⟨_, rfl, wpAny_pure h⟩))) htake)
    | exact wpAny_bind (wpAny_bind (m := Builtin.Tuple.tupleExact _) (wpAny_newObj_type (wpAny_pure (wpAny_pure ⟨_, rfl, wpAny_pure h⟩)) htake))
    | exact wpAny_bind (wpAny_bind (m := Builtin.Tuple.tupleExact _) (wpAny_newObj_type (wpAny_pure ⟨_, rfl, wpAny_pure h⟩) htake))
end
end PySem.W
end

-- ZSb
section
set_option Elab.async false
set_option linter.all false
set_option maxRecDepth 100000
set_option maxHeartbeats 4000000
/-! sum(lists, []). -/
namespace PySem.W
open PySem PySem.SeqAt PySem.Calls PyProof.Rows
/-- a list's object -/
def LO (h : Heap) (a : Addr) (xs : List Value) : Prop := ∃ n, h.get? a = some { cls := .type "list", data := .seq xs.toArray n }
theorem LO.keep {h h' : Heap} {a : Addr} {xs : List Value} (x : LO h a xs) (k : ∀ o, h.get? a = some o → h'.get? a = some o) : LO h' a xs := let ⟨n, e⟩ := x; ⟨n, k _ e⟩
theorem LO.lt {h : Heap} {a : Addr} {xs : List Value} (x : LO h a xs) : a < h.objs.size := let ⟨_, e⟩ := x; Heap.lt_size e
section
variable {prog : Program} {w : World} {A : Around} {E : Value → Shared → Prop} {R : Result → Shared → Prop}
/-- the lists that are still to come -/
def ToCome (h : Heap) (I S : Addr) : List Value → List (List Value) → Prop
  | [], [] => True
  | v :: vs, xs :: r => (∃ a, v = .ref a ∧ LO h a xs ∧ a ≠ I ∧ a ≠ S) ∧ ToCome h I S vs r
  | _, _ => False
theorem ToCome.keep {h h' : Heap} {I S : Addr} (k : ∀ b o, b ≠ I → b ≠ S → h.get? b = some o → h'.get? b = some o) : ∀ {vs : List Value} {r : List (List Value)}, ToCome h I S vs r → ToCome h' I S vs r
  | [], [], _ => trivial
  | v :: vs, xs :: r, ⟨⟨a, e, x, n1, n2⟩, t⟩ => ⟨⟨a, e, x.keep fun o q => k a o n1 n2 q, n1, n2⟩, ToCome.keep k t⟩
  | [], _ :: _, h => h.elim
  | _ :: _, [], h => h.elim
theorem z_sum_loop (hh : A.handled = none) {l I S : Addr} (hIl : l ≠ I) (hSI : S ≠ I) (hSl : S ≠ l) {vs : Array Value} :
    ∀ (r : List (List Value)) (i : Nat) (s : Shared) (t : Addr) (acc : List Value) (c : Nat), i ≤ vs.size → s.heap.IsListIter I l i → s.heap.IsList l vs → ToCome s.heap I S (vs.toList.drop i) r → LO s.heap t acc → t ≠ I → t ≠ S →
    s.heap.get? S = some { cls := .type "list", dict := none, data := .seq #[.ref t] c, slots := #[] } → acc.length + r.flatten.length ≤ sizeLine →
    (∀ (s' : Shared) (p : Addr), (∀ b o, b ≠ I → b ≠ S → s.heap.get? b = some o → s'.heap.get? b = some o) → s'.gens = s.gens → s'.drawn = s.drawn → s'.os = s.os → s.toks ≤ s'.toks → LO s'.heap p (acc ++ r.flatten) → (r = [] → p = t) → (r ≠ [] → S < p) → R (.ok (.ret (.ref p))) s') →
    codeAny (model prog w) A (.builtin "sum.loop" ⟨[.ref I, .ref S, rawInt 2, rawInt 0], []⟩) R s := by
  have W := (Walks.list (prog := prog) (w := w) (A := A.in1) hh I l hIl vs).toS
  intro r
  induction r with
  | nil =>
    intro i s t acc c hi hit hl htc ht tI tS hS hz hR
    have hd : vs.toList.drop i = [] := by
      cases q : vs.toList.drop i with
      | nil => rfl
      | cons a b => rw [q] at htc; exact htc.elim
    have hin : i = vs.size := by
      have := congrArg List.length hd
      rw [List.length_drop, Array.length_toList, List.length_nil] at this
      omega
    subst hin
    refine codeAny_builtin F.entry_sum_loop ?_
    rw [Around.under_plainId F.plain_sum_loop _]
    show wpAny _ A.in1 (seqItems? (.ref S) >>= _) _ _ s
    refine wpAny_bind (wpAny_seqItems hS rfl ?_)
    show wpAny _ A.in1 (tryCatch (pyNext (.ref I)) _ >>= _) _ _ s
    refine wpAny_bind (wpAny_tryCatch (W.done s _ _ ⟨hit, hl⟩ fun s' hm => ?_))
    refine wpAny_pure (hR s' t (fun b o b1 b2 e => hm.heap b o (by simpa using b1) e) hm.gens hm.drawn hm.os hm.toks ?_ (fun _ => rfl) fun z => absurd rfl z)
    simp only [List.flatten_nil, List.append_nil]
    exact ht.keep fun o e => hm.heap t o (by simpa using tI) e
  | cons xs r ih =>
    intro i s t acc c hi hit hl htc ht tI tS hS hz hR
    obtain ⟨v, vr, hd⟩ : ∃ v vr, vs.toList.drop i = v :: vr := by
      cases q : vs.toList.drop i with
      | nil => rw [q] at htc; exact htc.elim
      | cons a b => exact ⟨a, b, rfl⟩
    rw [hd] at htc
    obtain ⟨⟨a, rfl, ha, aI, aS⟩, htr⟩ := htc
    have hlt : i < vs.size := by
      have := congrArg List.length hd
      rw [List.length_drop, Array.length_toList, List.length_cons] at this
      omega
    have hvi : vs[i]? = some (Value.ref a) := by
      have := congrArg (fun l : List Value => l[0]?) hd
      simpa using this
    have hdr : vs.toList.drop (i + 1) = vr := by
      have := congrArg (fun l : List Value => l.drop 1) hd
      rw [List.drop_drop] at this
      simpa [Nat.add_comm] using this
    refine codeAny_builtin F.entry_sum_loop ?_
    rw [Around.under_plainId F.plain_sum_loop _]
    show wpAny _ A.in1 (seqItems? (.ref S) >>= _) _ _ s
    refine wpAny_bind (wpAny_seqItems hS rfl ?_)
    show wpAny _ A.in1 (tryCatch (pyNext (.ref I)) _ >>= _) _ _ s
    refine wpAny_bind (wpAny_tryCatch (W.item i s _ _ hlt ⟨hit, hl⟩ fun v s' hP hst' hm => ?_))
    rw [hvi] at hP
    cases hP
    have kp : ∀ b o, b ≠ I → s.heap.get? b = some o → s'.heap.get? b = some o := fun b o h1 e => hm.heap b o (by simpa using h1) e
    have hS' := kp S _ hSI hS
    obtain ⟨n1, ht'⟩ := ht.keep fun o e => kp t o tI e
    obtain ⟨n2, ha'⟩ := ha.keep fun o e => kp a o aI e
    have sz : acc.toArray.size + xs.toArray.size ≤ sizeLine := by
      simp only [List.flatten_cons, List.length_append] at hz
      simp only [List.size_toArray]
      omega
    show wpAny _ A.in1 ((holding [Value.ref a] (binaryOp .Add (.ref t) (.ref a))).attempt >>= _) _ _ _
    refine wpAny_bind (wpAny_attempt (wpAny_holding (PySem.P.add_list (s := s') ht' ha' ?_ sz)))
    -- the heap behind the new list
    have kq : ∀ b o, s'.heap.get? b = some o → (s'.heap.push { cls := .type "list", data := .seq (acc.toArray ++ xs.toArray) }).get? b = some o := fun b o e => Heap.get?_push_of_some _ e
    have hS1 := kq S _ hS'
    show wpAny _ A.in1 (updateSeq S (fun _ => #[.ref s'.heap.objs.size]) >>= _) _ _ _
    refine wpAny_bind (wpAny_updateSeq hS1 rfl ?_)
    have hS2 := Heap.get?_update_self (Obj.mapSeq fun _ => #[Value.ref s'.heap.objs.size]) hS1 rfl
    refine wpAny_bind (wpAny_letGo ?_)
    refine wpAny_bind (wpAny_updateSeq hS2 rfl (wpAny_pure ⟨plainId_quiet F.plain_sum_loop _, ?_⟩))
    have ku : ∀ b o, b ≠ S → s'.heap.get? b = some o → (((s'.heap.push { cls := .type "list", data := .seq (acc.toArray ++ xs.toArray) }).update S (Obj.mapSeq fun _ => #[Value.ref s'.heap.objs.size])).update S (Obj.mapSeq fun _ => #[Value.ref s'.heap.objs.size])).get? b = some o := fun b o hb e =>
      (Heap.get?_update_other _ _ (Ne.symm hb)).trans ((Heap.get?_update_other _ _ (Ne.symm hb)).trans (kq b o e))
    have pI : s'.heap.objs.size ≠ I := fun z => by
      obtain ⟨o, q, _⟩ := hst'.1
      have := Heap.lt_size q
      rw [z] at this
      exact Nat.lt_irrefl _ this
    have pS : s'.heap.objs.size ≠ S := fun z => by
      have := Heap.lt_size hS'
      rw [z] at this
      exact Nat.lt_irrefl _ this
    refine ih (i + 1) _ s'.heap.objs.size (acc ++ xs) _ hlt ?_ ?_ ?_ ⟨0, ?_⟩ pI pS (Heap.get?_update_self _ hS2 rfl) ?_ fun s'' p k1 k2 k3 k4 k5 k6 k7 k8 => ?_
    · obtain ⟨o, q, z⟩ := hst'.1
      exact ⟨o, ku I o (Ne.symm hSI) q, z⟩
    · obtain ⟨o, q, z⟩ := hst'.2
      exact ⟨o, ku l o (Ne.symm hSl) q, z⟩
    · rw [hdr]
      exact htr.keep fun b o h1 h2 e => ku b o h2 (kp b o h1 e)
    · have e1 : (s'.heap.push { cls := .type "list", data := .seq (acc.toArray ++ xs.toArray) }).get? s'.heap.objs.size = some { cls := .type "list", data := .seq (acc.toArray ++ xs.toArray) } := Heap.get?_push_size _ rfl
      have e2 : (acc ++ xs).toArray = acc.toArray ++ xs.toArray := by simp
      rw [e2]
      exact (Heap.get?_update_other _ _ (Ne.symm pS)).trans ((Heap.get?_update_other _ _ (Ne.symm pS)).trans e1)
    · simp only [List.flatten_cons, List.length_append] at hz ⊢
      omega
    · refine hR s'' p (fun b o h1 h2 e => k1 b o h1 h2 (ku b o h2 (kp b o h1 e))) (k2.trans hm.gens) (k3.trans hm.drawn) (k4.trans hm.os) (Nat.le_trans hm.toks k5) ?_ (fun z => nomatch z) fun _ => ?_
      · simpa using k6
      · by_cases hr : r = []
        · rw [k7 hr]
          exact Heap.lt_size hS'
        · exact k8 hr
theorem z_args_sum2 (a b : Value) : argsOk "sum" ⟨[a, b], []⟩ := by unfold argsOk; kernel_rfl
theorem z_sum_lists {l b : Addr} {vs : Array Value} {r : List (List Value)} {s : Shared} {Q : Value → Shared → Prop} (hh : A.handled = none) (hl : s.heap.IsList l vs) (hb : LO s.heap b []) (ht : ∀ I S, I = s.heap.objs.size → S = s.heap.objs.size + 1 → ToCome s.heap I S vs.toList r) (hz : r.flatten.length ≤ sizeLine)
    (h : ∀ h' tk (p : Addr), (∀ c o, s.heap.get? c = some o → h'.get? c = some o) → LO h' p r.flatten → (r = [] → p = b) → (r ≠ [] → s.heap.objs.size ≤ p) → Q (.ref p) { s with heap := h', toks := tk }) : wpAny (model prog w) A (call (.builtin "sum") [.ref l, .ref b]) Q E s := by
  refine call_function_tree F.kind_sum F.plain_sum F.entry_sum (z_args_sum2 _ _) ?_
  unfold Builtin.«sum»
  simp only [List.length_cons, List.length_nil]
  rw [if_neg (by decide)]
  refine wpAny_bind (wpAny_of_eq (show Builtin.Builtins.bindParams "sum" ["start"] 0 ⟨[.ref b], []⟩ = pure [some (.ref b)] from rfl) ?_)
  have hlt : l < s.heap.objs.size := by obtain ⟨_, e, _⟩ := hl; exact Heap.lt_size e
  refine wpAny_bind (wpAny_pyIter_list hl ?_)
  refine wpAny_bind (wpAny_pure ?_)
  have hbT : ({ s with heap := s.heap.push { cls := .type "list_iterator", data := .fields #[.ref l, .int 0 0] } } : Shared).TypeIs (.ref b) "list" := by
    obtain ⟨n, e⟩ := hb
    exact ⟨_, Heap.get?_push_of_some _ e, rfl⟩
  simp only [List.forIn_cons, List.forIn_nil]
  refine wpAny_bind (wpAny_bind (wpAny_bind (wpAny_isInstance (T := "list") (b := false) hbT (by first | exact PySem.F.sub_list_str | kernel_rfl) ?_)))
  simp only [Bool.false_eq_true, if_false]
  refine wpAny_pure (wpAny_bind (wpAny_bind (wpAny_isInstance (T := "list") (b := false) hbT (by first | exact PySem.F.sub_list_bytes | kernel_rfl) ?_)))
  simp only [Bool.false_eq_true, if_false]
  refine wpAny_pure (wpAny_bind (wpAny_bind (wpAny_isInstance (T := "list") (b := false) hbT (by first | exact PySem.F.sub_list_bytearray | kernel_rfl) ?_)))
  simp only [Bool.false_eq_true, if_false]
  refine wpAny_pure (wpAny_pure ?_)
  refine wpAny_bind (wpAny_newObj_type ?_)
  have hsz : (s.heap.push { cls := .type "list_iterator", data := .fields #[.ref l, .int 0 0] }).objs.size = s.heap.objs.size + 1 := by rw [Heap.size_push]
  have kk : ∀ c o, s.heap.get? c = some o → ((s.heap.push { cls := .type "list_iterator", data := .fields #[.ref l, .int 0 0] }).push { cls := .type "list", data := .seq #[.ref b] }).get? c = some o := fun c o e => Heap.get?_push_of_some _ (Heap.get?_push_of_some _ e)
  have hbl : b < s.heap.objs.size := hb.lt
  show wpAny _ _ (again (.builtin "sum.loop" ⟨[.ref s.heap.objs.size, .ref (s.heap.push { cls := .type "list_iterator", data := .fields #[.ref l, .int 0 0] }).objs.size, rawInt 2, rawInt 0], []⟩)) _ _ _
  rw [hsz]
  refine wpAny_pure ⟨plainId_quiet F.plain_sum_loop _, z_sum_loop (A := A) hh (l := l) (I := s.heap.objs.size) (S := s.heap.objs.size + 1) (Nat.ne_of_lt hlt) (Nat.succ_ne_self _) (Ne.symm (Nat.ne_of_lt (Nat.lt_succ_of_lt hlt))) r 0 _ b [] 0 (Nat.zero_le _) ⟨_, Heap.get?_push_of_some _ (Heap.get?_push_size _ rfl), rfl, rfl⟩ ((hl.push _).push _) ?_ (hb.keep fun o e => kk b o e) (Nat.ne_of_lt hbl) (Nat.ne_of_lt (Nat.lt_succ_of_lt hbl)) ?_ (by simpa using hz) fun s' p k1 k2 k3 k4 k5 k6 k7 k8 => ?_⟩
  · rw [List.drop_zero]
    exact (ht _ _ rfl rfl).keep fun c o _ _ e => kk c o e
  · have := Heap.get?_push_size (h := s.heap.push { cls := .type "list_iterator", data := .fields #[.ref l, .int 0 0] }) (o := { cls := .type "list", data := .seq #[.ref b] }) rfl
    rw [hsz] at this
    exact this
  · have e : s' = { s with heap := s'.heap, toks := s'.toks } := by
      obtain ⟨h', g', d', tk', os'⟩ := s'
      have e1 : g' = s.gens := k2
      have e2 : d' = s.drawn := k3
      have e3 : os' = s.os := k4
      subst e1 e2 e3
      rfl
    rw [e]
    refine h s'.heap s'.toks p (fun c o e => k1 c o (Nat.ne_of_lt (Heap.lt_size e)) (Nat.ne_of_lt (Nat.lt_succ_of_lt (Heap.lt_size e))) (kk c o e)) (by simpa using k6) k7 fun hr => ?_
    exact Nat.le_of_lt (Nat.lt_of_succ_lt (k8 hr))
end
end PySem.W
end

-- ZA
section
set_option Elab.async false
set_option linter.all false
set_option maxRecDepth 100000
/-! A small machine for the fragment of Python that the program stands in: data, a store of changing things, expressions, statements. -/
namespace Z
open PySem
abbrev Key := L2.Key

/-- data: what does not change is a tree; what changes is named by its number in the store -/
inductive D where
  | non | bl (b : Bool) | int (i : Int) | str (x : Str) | tup (xs : List D) | ref (n : Nat) | gd (j : Nat) | rl (xs : List D)

mutual
def D.beq : D → D → Bool
  | .non, .non => true
  | .bl a, .bl b => a == b
  | .int a, .int b => decide (a = b)
  | .str a, .str b => decide (a = b)
  | .tup a, .tup b => D.beqs a b
  | .ref a, .ref b => decide (a = b)
  | .gd a, .gd b => decide (a = b)
  | .rl a, .rl b => D.beqs a b
  | _, _ => false
def D.beqs : List D → List D → Bool
  | [], [] => true
  | a :: as, b :: bs => D.beq a b && D.beqs as bs
  | _, _ => false
end
mutual
theorem D.beq_iff : ∀ (a b : D), D.beq a b = true ↔ a = b
  | .non, b => by cases b <;> simp [D.beq]
  | .bl a, b => by cases b <;> simp [D.beq]
  | .int a, b => by cases b <;> simp [D.beq]
  | .str a, b => by cases b <;> simp [D.beq]
  | .tup a, b => by cases b <;> simp [D.beq, D.beqs_iff a]
  | .ref a, b => by cases b <;> simp [D.beq]
  | .gd a, b => by cases b <;> simp [D.beq]
  | .rl a, b => by cases b <;> simp [D.beq, D.beqs_iff a]
theorem D.beqs_iff : ∀ (a b : List D), D.beqs a b = true ↔ a = b
  | [], b => by cases b <;> simp [D.beqs]
  | a :: as, b => by cases b <;> simp [D.beqs, D.beq_iff a, D.beqs_iff as]
end
instance : DecidableEq D := fun a b => decidable_of_iff _ (D.beq_iff a b)

/-- a thing of the store -/
inductive O where
  | lst (xs : List D) | dK (kvs : List (Key × D)) | dT (kvs : List (List Key × D)) | ins (c : Nat) (fs : List (Nat × D))
  deriving DecidableEq
abbrev Hh := List O
abbrev Sl := List (Option D)

inductive Prim where
  | add | sub | mul | fdiv | mod | pow | neg | abs | gcd | toInt | max2 | min2
  | eq | ne | lt | le | gt | ge | isN | notN | inn | nin
  | ix | rev
  | len | list | tuple | sum | sumL | all | any | sorted | minD | max1 | min1
  | isInt | isBool | isSeq | isCls (c : Nat)
  | append | pop | popAt | extend
  deriving DecidableEq

mutual
inductive Ex where
  | var (i : Nat)
  | con (d : D)
  | glo (g : Nat)
  | tup (es : Exs) | lst (es : Exs)
  | un (p : Prim) (a : Ex)
  | bin (p : Prim) (a b : Ex)
  | sl (a lo hi : Ex)
  | app (p : Prim) (es : Exs)
  | met (p : Prim) (o : Ex) (es : Exs)
  | and (a b : Ex) | or (a b : Ex) | not (a : Ex)
  | chn (p q : Prim) (a b c : Ex)
  | ite (t : Ts) (a b : Ex)
  | call (f : Nat) (es : Exs)
  | new (c : Nat) (es : Exs)
  | umt (m : Nat) (o : Ex) (es : Exs)
  | fld (f : Nat) (o : Ex)
  | lc (it : It) (t : Tg) (ifs : Ts) (e : Ex) (own : List Nat)
  | lc2 (it : It) (t : Tg) (it2 : It) (t2 : Tg) (e : Ex) (own own2 : List Nat)
  | dic (ks : List Key) (es : Exs)
  | dnewT
inductive Exs where
  | nil | cons (e : Ex) (es : Exs) | star (e : Ex) (es : Exs)
inductive Ts where
  | yes | val (e : Ex) | and (a b : Ts) | or (a b : Ts) | not (a : Ts)
inductive It where
  | seq (e : Ex) | rng1 (a : Ex) | rng2 (a b : Ex) | enum (e : Ex) | zip (a b : Ex)
inductive Tg where
  | nm (i : Nat) | tp (ts : Tgs) | sub (o i : Ex) | fld (o : Ex) (f : Nat)
inductive Tgs where
  | nil | cons (t : Tg) (ts : Tgs)
end

mutual
inductive Stm where
  | pass | brk | cnt | never | retN
  | ret (e : Ex) | exp (e : Ex)
  | asg (t : Tg) (e : Ex)
  | aug (i : Nat) (p : Prim) (e : Ex)
  | ite (t : Ts) (a b : Stms)
  | whl (t : Ts) (b : Stms)
  | fo (it : It) (t : Tg) (b : Stms)
inductive Stms where
  | nil | cons (s : Stm) (ss : Stms)
end

/-! ### by values -/
mutual
def toPW (r : Nat → Option PyData) : D → Option PyData
  | .non => some .none
  | .bl b => some (.bool b)
  | .int i => some (.int i)
  | .str x => some (.str x)
  | .tup xs => (toPWs r xs).map .tuple
  | .ref n => r n
  | .gd _ => none
  | .rl _ => none
def toPWs (r : Nat → Option PyData) : List D → Option (List PyData)
  | [] => some []
  | x :: xs => match toPW r x, toPWs r xs with
    | some a, some as => some (a :: as)
    | _, _ => none
end
def refP (h : Hh) : Nat → Nat → Option PyData
  | 0, _ => none
  | k + 1, n => match h[n]? with
    | some (.lst xs) => (toPWs (refP h k) xs).map .list
    | _ => none
def toP (h : Hh) (d : D) : Option PyData := toPW (refP h 8) d

def eqP (h : Hh) (a b : D) : Option Bool := match toP h a, toP h b with
  | some x, some y => if SeqAt.shaped x = true ∧ SeqAt.shaped y = true then some (PyData.eqv x y) else none
  | _, _ => none

def encD (h : Hh) (d : D) : PyData := (toP h d).getD .none
def tupP : PyData → Bool
  | .tuple _ => true
  | _ => false
def nonP : PyData → Bool
  | .none => true
  | _ => false
/-- data that can be compared -/
def dataB (h : Hh) (xs : List D) : Bool := (xs.all fun d => (toP h d).isSome) && (xs.all fun d => xs.all fun d' => PySem.W.alike (encD h d) (encD h d')) && (xs.all fun d => !nonP (encD h d)) && decide (PyData.depthAll (xs.map (encD h)) ≤ 50)
def sortB (h : Hh) (xs : List D) : Bool := (xs.all fun d => tupP (encD h d)) || (xs.all fun d => !tupP (encD h d))
def sortD (h : Hh) (xs : List D) : List D := xs.mergeSort (PySem.W.dataLe false (encD h))
/-- the lists that these name -/
def listsOf (h : Hh) : List D → Option (List (List D))
  | [] => some []
  | .ref n :: r => match h[n]?, listsOf h r with
    | some (.lst xs), some xss => some (xs :: xss)
    | _, _ => none
  | _ => none

def seqOf (h : Hh) : D → Option (List D)
  | .tup xs => some xs
  | .rl xs => some xs
  | .ref n => match h[n]? with
    | some (.lst xs) => some xs
    | _ => none
  | _ => none

def allInts : List D → Option (List Int)
  | [] => some []
  | .int i :: xs => (allInts xs).map (i :: ·)
  | _ => none
def allBls : List D → Option (List Bool)
  | [] => some []
  | .bl i :: xs => (allBls xs).map (i :: ·)
  | _ => none
def keyOf : D → Option Key
  | .int i => some (.inl i)
  | .str x => some (.inr x)
  | _ => none
def kget {κ : Type} [DecidableEq κ] (k : κ) : List (κ × D) → Option D
  | [] => none
  | (a, v) :: r => if a = k then some v else kget k r
def kput {κ : Type} [DecidableEq κ] (k : κ) (v : D) (kvs : List (κ × D)) : List (κ × D) :=
  if (kvs.any fun kv => decide (kv.1 = k)) = true then kvs.map (fun kv => if kv.1 = k then (kv.1, v) else kv) else kvs ++ [(k, v)]
def fput (f : Nat) (v : D) : List (Nat × D) → List (Nat × D)
  | [] => [(f, v)]
  | (g, u) :: r => if g = f then (g, v) :: r else (g, u) :: fput f v r
def line : Nat := 1000000
def truth (h : Hh) : D → Option Bool
  | .bl b => some b
  | .non => some false
  | .int i => some (i != 0)
  | _ => none

structure GEnv where
  glo : Nat → D
  wd : Nat → List (Key × D)
  mth : Nat → Nat → Option Nat
  fld : Nat → Nat → Bool
  ini : Nat → Nat
structure CS where
  fn : Nat → List D → Hh → Option (D × Hh)
  mi : Nat → List D → Hh → Option (D × Hh)

def mulOk (i j : Int) : Bool := decide (i.natAbs.log2 + j.natAbs.log2 < 1000000)
def divOk (j : Int) : Bool := decide (j ≠ 0 ∧ j.natAbs < 1073741824) || decide (0 < j ∧ j.natAbs.log2 < 9000)
def powOk (i j : Int) : Bool := decide (0 ≤ j ∧ j ≤ 1000000 ∧ i.natAbs < 2 ^ 64)
def newL (xs : List D) (h : Hh) : Option (D × Hh) := some (.ref h.length, h ++ [.lst xs])

inductive Ty where
  | non | bl | int | str | tup | lst | dct
  deriving DecidableEq
/-- the built-in type of what stands here -/
def tyD (h : Hh) : D → Option Ty
  | .non => some .non
  | .bl _ => some .bl
  | .int _ => some .int
  | .str _ => some .str
  | .tup _ => some .tup
  | .ref n => match h[n]? with
    | some (.lst _) => some .lst
    | some (.dK _) => some .dct
    | some (.dT _) => some .dct
    | _ => none
  | .gd _ => none
  | .rl _ => some .lst
def prim1 (p : Prim) (a : D) (h : Hh) : Option (D × Hh) := match p with
  | .neg => match a with
    | .int i => some (.int (-i), h)
    | _ => none
  | .abs => match a with
    | .int i => some (.int (if i < 0 then -i else i), h)
    | _ => none
  | .toInt => match a with
    | .int i => some (.int i, h)
    | .bl b => some (.int (if b then 1 else 0), h)
    | _ => none
  | .isN => some (.bl (decide (a = .non)), h)
  | .notN => some (.bl (!decide (a = .non)), h)
  | .isInt => match tyD h a with
    | some t => some (.bl (decide (t = .int ∨ t = .bl)), h)
    | none => none
  | .isBool => match tyD h a with
    | some t => some (.bl (decide (t = .bl)), h)
    | none => none
  | .isSeq => match tyD h a with
    | some t => some (.bl (decide (t = .lst ∨ t = .tup)), h)
    | none => none
  | .isCls c => match tyD h a with
    | some _ => some (.bl false, h)
    | none => match a with
      | .ref n => match h[n]? with
        | some (.ins c' _) => if c' = c then some (.bl true, h) else none
        | _ => none
      | _ => none
  | .rev => match a with
    | .tup xs => some (.tup xs.reverse, h)
    | _ => none
  | .len => match a with
    | .ref n => match h[n]? with
      | some (.dK kvs) => some (.int kvs.length, h)
      | some (.lst xs) => some (.int xs.length, h)
      | _ => none
    | .tup xs => some (.int xs.length, h)
    | .rl xs => some (.int xs.length, h)
    | _ => none
  | .list => match seqOf h a with
    | some xs => newL xs h
    | none => none
  | .tuple => match seqOf h a with
    | some xs => some (.tup xs, h)
    | none => none
  | .sum => match a with
    | .ref n => match h[n]? with
      | some (.lst xs) => match allInts xs with
        | some ns => some (.int ns.sum, h)
        | none => none
      | _ => none
    | _ => none
  | .all => match a with
    | .ref n => match h[n]? with
      | some (.lst xs) => match allBls xs with
        | some bs => some (.bl (bs.all id), h)
        | none => none
      | _ => none
    | _ => none
  | .any => match a with
    | .ref n => match h[n]? with
      | some (.lst xs) => match allBls xs with
        | some bs => some (.bl (bs.any id), h)
        | none => none
      | _ => none
    | _ => none
  | .sorted => match seqOf h a with
    | some xs => if dataB h xs = true ∧ sortB h xs = true ∧ xs.length ≤ line then newL (sortD h xs) h else none
    | none => none
  | .pop => match a with
    | .ref n => match h[n]? with
      | some (.lst xs) => match xs.getLast? with
        | some x => some (x, h.set n (.lst xs.dropLast))
        | none => none
      | _ => none
    | _ => none
  | _ => none

def ixD (G : GEnv) (h : Hh) (a b : D) : Option D := match a, b with
  | .tup xs, .int i => L2.atI xs i
  | .rl xs, .int i => L2.atI xs i
  | .gd j, k => match keyOf k with
    | some k => kget k (G.wd j)
    | none => none
  | .ref n, k => match h[n]? with
    | some (.lst xs) => match k with
      | .int i => L2.atI xs i
      | _ => none
    | some (.dK kvs) => match keyOf k with
      | some k => kget k kvs
      | none => none
    | _ => none
  | _, _ => none
def inP (dx : PyData) (ds : List PyData) : Option Bool := if SeqAt.shaped dx = true ∧ SeqAt.shaped (.list ds) = true then some (ds.any fun d => PyData.eqv d dx) else none
def inD (h : Hh) (x c : D) : Option Bool := match c with
  | .ref n => match h[n]? with
    | some (.dK kvs) => match keyOf x with
      | some k => some (kget k kvs).isSome
      | none => none
    | some (.lst xs) => match toP h x, toPWs (refP h 8) xs with
      | some dx, some ds => inP dx ds
      | _, _ => none
    | _ => none
  | .tup xs => match toP h x, toPWs (refP h 8) xs with
    | some dx, some ds => inP dx ds
    | _, _ => none
  | _ => none

def prim2 (G : GEnv) (p : Prim) (a b : D) (h : Hh) : Option (D × Hh) := match p with
  | .add => match a, b with
    | .int i, .int j => some (.int (i + j), h)
    | .str x, .str y => if x.length + y.length ≤ line then some (.str (x ++ y), h) else none
    | .tup xs, .tup ys => if xs.length + ys.length ≤ line then some (.tup (xs ++ ys), h) else none
    | .ref n, .ref m => match h[n]?, h[m]? with
      | some (.lst xs), some (.lst ys) => if xs.length + ys.length ≤ line then newL (xs ++ ys) h else none
      | _, _ => none
    | _, _ => none
  | .sub => match a, b with
    | .int i, .int j => some (.int (i - j), h)
    | _, _ => none
  | .mul => match a, b with
    | .int i, .int j => if mulOk i j = true then some (.int (i * j), h) else none
    | .ref n, .int k => match h[n]? with
      | some (.lst xs) => if k ≤ 1000000 ∧ -1000000 ≤ k ∧ xs.length * k.toNat ≤ line then newL (List.replicate k.toNat xs).flatten h else none
      | _ => none
    | _, _ => none
  | .fdiv => match a, b with
    | .int i, .int j => if divOk j = true then some (.int (i.fdiv j), h) else none
    | _, _ => none
  | .mod => match a, b with
    | .int i, .int j => if j ≠ 0 then some (.int (i.fmod j), h) else none
    | _, _ => none
  | .pow => match a, b with
    | .int i, .int j => if powOk i j = true then some (.int (i ^ j.toNat), h) else none
    | _, _ => none
  | .eq => match eqP h a b with
    | some r => some (.bl r, h)
    | none => none
  | .ne => match eqP h a b with
    | some r => some (.bl (!r), h)
    | none => none
  | .lt => match a, b with
    | .int i, .int j => some (.bl (decide (i < j)), h)
    | _, _ => none
  | .le => match a, b with
    | .int i, .int j => some (.bl (decide (i ≤ j)), h)
    | _, _ => none
  | .gt => match a, b with
    | .int i, .int j => some (.bl (decide (j < i)), h)
    | _, _ => none
  | .ge => match a, b with
    | .int i, .int j => some (.bl (decide (j ≤ i)), h)
    | _, _ => none
  | .inn => match inD h a b with
    | some r => some (.bl r, h)
    | none => none
  | .nin => match inD h a b with
    | some r => some (.bl (!r), h)
    | none => none
  | .ix => match ixD G h a b with
    | some r => some (r, h)
    | none => none
  | .gcd => match a, b with
    | .int i, .int j => some (.int ((Nat.gcd i.natAbs j.natAbs : Nat) : Int), h)
    | _, _ => none
  | .max2 => match a, b with
    | .int i, .int j => some (.int (if j > i then j else i), h)
    | _, _ => none
  | .min2 => if dataB h [a, b] = true then some (if PySem.W.dataLt (encD h b) (encD h a) = true then b else a, h) else none
  | .minD => match a with
    | .ref n => match h[n]? with
      | some (.lst xs) => if dataB h xs = true then match xs with
          | [] => some (b, h)
          | _ => match xs[PySem.W.zLeast (xs.map (encD h))]? with
            | some x => some (x, h)
            | none => none
        else none
      | _ => none
    | _ => none
  | .sumL => match a, b with
    | .ref n, .ref m => match h[n]?, h[m]? with
      | some (.lst xs), some (.lst []) => match listsOf h xs with
        | some xss => if xss.flatten.length ≤ line then match xss with
            | [] => some (.ref m, h)
            | _ => newL xss.flatten h
          else none
        | none => none
      | _, _ => none
    | _, _ => none
  | .append => match a with
    | .ref n => match h[n]? with
      | some (.lst xs) => if xs.length < line then some (.non, h.set n (.lst (xs ++ [b]))) else none
      | _ => none
    | _ => none
  | .popAt => match a, b with
    | .ref n, .int i => match h[n]? with
      | some (.lst xs) => match L2.ixN xs.length i with
        | some k => match xs[k]? with
          | some x => some (x, h.set n (.lst (xs.eraseIdx k)))
          | none => none
        | none => none
      | _ => none
    | _, _ => none
  | _ => none
def primN (G : GEnv) (p : Prim) (as : List D) (h : Hh) : Option (D × Hh) := match as with
  | [a] => prim1 p a h
  | [a, b] => prim2 G p a b h
  | _ => none

/-- a slice's bound -/
def partOf : D → Option (Option Int)
  | .non => some none
  | .int i => some (some i)
  | _ => none
def cutD (xs : List D) (lo hi : Option Int) : List D := (xs.drop (HT.sIx xs.length 0 lo)).take (HT.sIx xs.length xs.length hi - HT.sIx xs.length 0 lo)
def slD (a lo hi : D) (h : Hh) : Option (D × Hh) := match partOf lo, partOf hi with
  | some l, some u => match a with
    | .tup xs => some (.tup (cutD xs l u), h)
    | .rl xs => newL (cutD xs l u) h
    | .ref n => match h[n]? with
      | some (.lst xs) => newL (cutD xs l u) h
      | _ => none
    | _ => none
  | _, _ => none

/-! ### the machine -/
def wipeD (s : Sl) : List Nat → Sl
  | [] => s
  | v :: vs => (wipeD s vs).set v none
abbrev Gd := List (Nat × O)
def gOk (g : Gd) (h : Hh) : Bool := g.all fun p => decide (h[p.1]? = some p.2)
/-- what is walked: its items, what must stand meanwhile -/
def itSeq (h : Hh) : D → Option (List D × Gd)
  | .tup xs => some (xs, [])
  | .rl xs => some (xs, [])
  | .ref n => match h[n]? with
    | some (.lst xs) => some (xs, [(n, .lst xs)])
    | _ => none
  | _ => none
def rangeD (lo : Int) (n : Nat) : List D := (List.range n).map fun (i : Nat) => .int (lo + (i : Nat))
def small62 (i : Int) : Bool := decide (-1000000000 ≤ i ∧ i ≤ 1000000000)
def enumD (i : Nat) : List D → List D
  | [] => []
  | x :: xs => .tup [.int i, x] :: enumD (i + 1) xs

def lcGo (body : D → Hh → Option (Option D × Hh)) (g : Gd) (dn : Nat) : List D → Hh → Option Hh
  | [], h => if gOk g h = true then some h else none
  | x :: xs, h => if gOk g h = true then match body x h with
      | some (some y, h1) => match h1[dn]? with
        | some (.lst acc) => if acc.length < line then lcGo body g dn xs (h1.set dn (.lst (acc ++ [y]))) else none
        | _ => none
      | some (none, h1) => lcGo body g dn xs h1
      | none => none
    else none

/-- the outer walk of a comprehension of two -/
def lcO (body : D → Hh → Option Hh) (g : Gd) : List D → Hh → Option Hh
  | [], h => if gOk g h = true then some h else none
  | x :: xs, h => if gOk g h = true then match body x h with
      | some h1 => lcO body g xs h1
      | none => none
    else none
section
variable (G : GEnv) (cs : CS)
mutual
def ev : Ex → Sl → Hh → Option (D × Hh)
  | .var i, s, h => match s[i]? with
    | some (some d) => some (d, h)
    | _ => none
  | .con d, _, h => some (d, h)
  | .glo g, _, h => some (G.glo g, h)
  | .tup es, s, h => match evs es s h with
    | some (ds, h1) => if ds.length ≤ line then some (.tup ds, h1) else none
    | none => none
  | .lst es, s, h => match evs es s h with
    | some (ds, h1) => if ds.length ≤ line then newL ds h1 else none
    | none => none
  | .un p a, s, h => match ev a s h with
    | some (x, h1) => prim1 p x h1
    | none => none
  | .bin p a b, s, h => match ev a s h with
    | some (x, h1) => match ev b s h1 with
      | some (y, h2) => prim2 G p x y h2
      | none => none
    | none => none
  | .sl a lo hi, s, h => match ev a s h with
    | some (x, h1) => match ev lo s h1 with
      | some (l, h2) => match ev hi s h2 with
        | some (u, h3) => slD x l u h3
        | none => none
      | none => none
    | none => none
  | .app p es, s, h => match evs es s h with
    | some (ds, h1) => primN G p ds h1
    | none => none
  | .met p o es, s, h => match ev o s h with
    | some (.ref n, h1) => match h1[n]? with
      | some (.lst _) => match evs es s h1 with
        | some (ds, h2) => primN G p (.ref n :: ds) h2
        | none => none
      | _ => none
    | _ => none
  | .and a b, s, h => match ev a s h with
    | some (.bl true, h1) => ev b s h1
    | some (.bl false, h1) => some (.bl false, h1)
    | _ => none
  | .or a b, s, h => match ev a s h with
    | some (.bl true, h1) => some (.bl true, h1)
    | some (.bl false, h1) => ev b s h1
    | _ => none
  | .not a, s, h => match ev a s h with
    | some (.bl b, h1) => some (.bl (!b), h1)
    | _ => none
  | .chn p q a b c, s, h => match ev a s h with
    | some (x, h1) => match ev b s h1 with
      | some (y, h2) => match prim2 G p x y h2 with
        | some (.bl true, h3) => match ev c s h3 with
          | some (z, h4) => prim2 G q y z h4
          | none => none
        | some (.bl false, h3) => some (.bl false, h3)
        | _ => none
      | none => none
    | none => none
  | .ite t a b, s, h => match evT t s h with
    | some (true, h1) => ev a s h1
    | some (false, h1) => ev b s h1
    | none => none
  | .call f es, s, h => match evs es s h with
    | some (ds, h1) => cs.fn f ds h1
    | none => none
  | .new c es, s, h => match evs es s h with
    | some (ds, h1) => match cs.mi (G.ini c) (.ref h1.length :: ds) (h1 ++ [.ins c []]) with
      | some (.non, h2) => some (.ref h1.length, h2)
      | _ => none
    | none => none
  | .umt m o es, s, h => match ev o s h with
    | some (.ref n, h1) => match h1[n]? with
      | some (.ins c fs) => match kget m fs, G.mth c m with
        | none, some f => match evs es s h1 with
          | some (ds, h2) => cs.fn f (.ref n :: ds) h2
          | none => none
        | _, _ => none
      | _ => none
    | _ => none
  | .fld f o, s, h => match ev o s h with
    | some (.ref n, h1) => match h1[n]? with
      | some (.ins c fs) => if G.fld c f = true then match kget f fs with
          | some v => some (v, h1)
          | none => none
        else none
      | _ => none
    | _ => none
  | .lc it t ifs e own, s, h => match evI it s h with
    | some (xs, g, h1) => match lcGo (fun x h => match st t x (wipeD s own) h with
        | some (s2, h2) => match evT ifs s2 h2 with
          | some (true, h3) => match ev e s2 h3 with
            | some (y, h4) => some (some y, h4)
            | none => none
          | some (false, h3) => some (none, h3)
          | none => none
        | none => none) g h1.length xs (h1 ++ [.lst []]) with
      | some h2 => some (.ref h1.length, h2)
      | none => none
    | none => none
  | .lc2 it t it2 t2 e own own2, s, h => match evI it s h with
    | some (xs, g, h1) => match lcO (fun x h => match st t x (wipeD s own) h with
        | some (s2, h2) => match evI it2 s2 h2 with
          | some (ys, g2, h3) => lcGo (fun y h => match st t2 y (wipeD s2 own2) h with
              | some (s4, h4) => match ev e s4 h4 with
                | some (z, h5) => some (some z, h5)
                | none => none
              | none => none) g2 h1.length ys h3
          | none => none
        | none => none) g xs (h1 ++ [.lst []]) with
      | some h2 => some (.ref h1.length, h2)
      | none => none
    | none => none
  | .dic ks es, s, h => match evs es s (h ++ [.dK []]) with
    | some (ds, h2) => match h2[h.length]? with
      | some (.dK []) => if ks.length = ds.length ∧ ks.length ≤ 15 then some (.ref h.length, h2.set h.length (.dK ((ks.zip ds).foldl (fun acc kv => kput kv.1 kv.2 acc) []))) else none
      | _ => none
    | none => none
  | .dnewT, _, h => some (.ref h.length, h ++ [.dT []])
def evs : Exs → Sl → Hh → Option (List D × Hh)
  | .nil, _, h => some ([], h)
  | .cons e es, s, h => match ev e s h with
    | some (d, h1) => match evs es s h1 with
      | some (ds, h2) => some (d :: ds, h2)
      | none => none
    | none => none
  | .star e es, s, h => match ev e s h with
    | some (d, h1) => match seqOf h1 d with
      | some xs => match evs es s h1 with
        | some (ds, h2) => some (xs ++ ds, h2)
        | none => none
      | none => none
    | none => none
/-- a test -/
def evT : Ts → Sl → Hh → Option (Bool × Hh)
  | .yes, _, h => some (true, h)
  | .val e, s, h => match ev e s h with
    | some (d, h1) => match truth h1 d with
      | some b => some (b, h1)
      | none => none
    | none => none
  | .and a b, s, h => match evT a s h with
    | some (true, h1) => evT b s h1
    | some (false, h1) => some (false, h1)
    | none => none
  | .or a b, s, h => match evT a s h with
    | some (true, h1) => some (true, h1)
    | some (false, h1) => evT b s h1
    | none => none
  | .not a, s, h => match evT a s h with
    | some (b, h1) => some (!b, h1)
    | none => none
def evI : It → Sl → Hh → Option (List D × Gd × Hh)
  | .seq e, s, h => match ev e s h with
    | some (d, h1) => match itSeq h1 d with
      | some (xs, g) => some (xs, g, h1)
      | none => none
    | none => none
  | .rng1 a, s, h => match ev a s h with
    | some (.int n, h1) => if small62 n = true then some (rangeD 0 n.toNat, [], h1) else none
    | _ => none
  | .rng2 a b, s, h => match ev a s h with
    | some (.int lo, h1) => match ev b s h1 with
      | some (.int n, h2) => if small62 lo = true ∧ small62 n = true then some (rangeD lo (n - lo).toNat, [], h2) else none
      | _ => none
    | _ => none
  | .enum e, s, h => match ev e s h with
    | some (d, h1) => match itSeq h1 d with
      | some (xs, g) => some (enumD 0 xs, g, h1)
      | none => none
    | none => none
  | .zip a b, s, h => match ev a s h with
    | some (x, h1) => match ev b s h1 with
      | some (y, h2) => match itSeq h2 x, itSeq h2 y with
        | some (xs, g), some (ys, g') => some ((xs.zip ys).map fun p => .tup [p.1, p.2], g ++ g', h2)
        | _, _ => none
      | none => none
    | none => none
def st : Tg → D → Sl → Hh → Option (Sl × Hh)
  | .nm i, v, s, h => some (s.set i (some v), h)
  | .tp ts, v, s, h => match v with
    | .tup xs => sts ts xs s h
    | _ => none
  | .sub o i, v, s, h => match ev o s h with
    | some (x, h1) => match ev i s h1 with
      | some (k, h2) => match x with
        | .ref n => match h2[n]? with
          | some (.lst xs) => match k with
            | .int i => match L2.ixN xs.length i with
              | some j => some (s, h2.set n (.lst (xs.set j v)))
              | none => none
            | _ => none
          | some (.dK kvs) => match keyOf k with
            | some k => if kvs.length < line then some (s, h2.set n (.dK (kput k v kvs))) else none
            | none => none
          | _ => none
        | _ => none
      | none => none
    | none => none
  | .fld o f, v, s, h => match ev o s h with
    | some (.ref n, h1) => match h1[n]? with
      | some (.ins c fs) => if fs.length < 1000 ∧ G.fld c f = true then some (s, h1.set n (.ins c (fput f v fs))) else none
      | _ => none
    | _ => none
def sts : Tgs → List D → Sl → Hh → Option (Sl × Hh)
  | .nil, [], s, h => some (s, h)
  | .cons t ts, v :: vs, s, h => match st t v s h with
    | some (s1, h1) => sts ts vs s1 h1
    | none => none
  | _, _, _, _ => none
end

inductive Out where
  | nx (s : Sl) (h : Hh) | rt (v : D) (h : Hh) | bk (s : Sl) (h : Hh) | ct (s : Sl) (h : Hh)

def whileN (t : Sl → Hh → Option (Bool × Hh)) (b : Sl → Hh → Option Out) : Nat → Sl → Hh → Option Out
  | 0, _, _ => none
  | n + 1, s, h => match t s h with
    | some (true, h1) => match b s h1 with
      | some (.nx s2 h2) => whileN t b n s2 h2
      | some (.ct s2 h2) => whileN t b n s2 h2
      | some (.bk s2 h2) => some (.nx s2 h2)
      | some (.rt v h2) => some (.rt v h2)
      | none => none
    | some (false, h1) => some (.nx s h1)
    | none => none
def forL (g : Gd) (b : D → Sl → Hh → Option Out) : List D → Sl → Hh → Option Out
  | [], s, h => if gOk g h = true then some (.nx s h) else none
  | x :: xs, s, h => if gOk g h = true then match b x s h with
      | some (.nx s2 h2) => forL g b xs s2 h2
      | some (.ct s2 h2) => forL g b xs s2 h2
      | some (.bk s2 h2) => some (.nx s2 h2)
      | some (.rt v h2) => some (.rt v h2)
      | none => none
    else none
def loopMax : Nat := 1000000

mutual
def ex : Stm → Sl → Hh → Option Out
  | .pass, s, h => some (.nx s h)
  | .brk, s, h => some (.bk s h)
  | .cnt, s, h => some (.ct s h)
  | .never, _, _ => none
  | .retN, _, h => some (.rt .non h)
  | .ret e, s, h => match ev G cs e s h with
    | some (v, h1) => some (.rt v h1)
    | none => none
  | .exp e, s, h => match ev G cs e s h with
    | some (_, h1) => some (.nx s h1)
    | none => none
  | .asg t e, s, h => match ev G cs e s h with
    | some (v, h1) => match st G cs t v s h1 with
      | some (s2, h2) => some (.nx s2 h2)
      | none => none
    | none => none
  | .aug i p e, s, h => match s[i]? with
    | some (some x) => match ev G cs e s h with
      | some (y, h1) => match x, y with
        | .int _, .int _ => match prim2 G p x y h1 with
          | some (z, h2) => some (.nx (s.set i (some z)) h2)
          | none => none
        | _, _ => none
      | none => none
    | _ => none
  | .ite t a b, s, h => match evT G cs t s h with
    | some (true, h1) => exs a s h1
    | some (false, h1) => exs b s h1
    | none => none
  | .whl t b, s, h => whileN (fun s h => evT G cs t s h) (fun s h => exs b s h) loopMax s h
  | .fo it t b, s, h => match evI G cs it s h with
    | some (xs, g, h1) => forL g (fun x s h => match st G cs t x s h with
        | some (s2, h2) => exs b s2 h2
        | none => none) xs s h1
    | none => none
def exs : Stms → Sl → Hh → Option Out
  | .nil, s, h => some (.nx s h)
  | .cons c cs', s, h => match ex c s h with
    | some (.nx s2 h2) => exs cs' s2 h2
    | r => r
end
end

/-! ### calls -/
mutual
def below (n : Nat) : D → Bool
  | .ref m => decide (m < n)
  | .tup xs => belows n xs
  | .rl xs => belows n xs
  | _ => true
def belows (n : Nat) : List D → Bool
  | [] => true
  | x :: xs => below n x && belows n xs
end
def belowO (n : Nat) : O → Bool
  | .lst xs => belows n xs
  | .dK kvs => belows n (kvs.map (·.2))
  | .dT kvs => belows n (kvs.map (·.2))
  | .ins _ fs => belows n (fs.map (·.2))
/-- the elder things are as they were, or lean on elder things alone -/
def stable (n : Nat) (h h' : Hh) : Bool := (h.zip h').all fun p => decide (p.1 = p.2) || belowO n p.2
/-- behind a call: what nothing leans on any more is let go -/
def gc (h : Hh) (r : D × Hh) : D × Hh :=
  let n := h.length
  if stable n h r.2 = true then
    if below n r.1 = true then (r.1, r.2.take n)
    else match r.1 with
      | .ref a => match r.2[a]? with
        | some o => if belowO n o = true then (.ref n, r.2.take n ++ [o]) else r
        | none => r
      | _ => r
  else r
/-- a def: how many parameters, how many names in all, its body -/
structure Fn where
  np : Nat
  nn : Nat
  body : Stms
def startD (n : Nat) (vs : List D) : Sl := vs.map some ++ List.replicate (n - vs.length) none
def run (G : GEnv) (cs : CS) (f : Fn) (vs : List D) (h : Hh) : Option (D × Hh) :=
  if vs.length = f.np then match exs G cs f.body (startD f.nn vs) h with
    | some (.rt v h') => some (gc h (v, h'))
    | some (.nx _ h') => some (gc h (.non, h'))
    | _ => none
  else none
/-- by levels: k calls deep, an __init__ one level less -/
def sem (G : GEnv) (P : Nat → Option Fn) : Nat → CS
  | 0 => ⟨fun _ _ _ => none, fun _ _ _ => none⟩
  | k + 1 => ⟨fun f vs h => match P f with
      | some fn => run G (sem G P k) fn vs h
      | none => none, (sem G P k).fn⟩
end Z
end

-- ZB
section
set_option Elab.async false
set_option linter.all false
set_option maxRecDepth 100000
set_option maxHeartbeats 1000000
/-! The machine's data beside the layer's values and heap. -/
namespace Z
open PySem L2 PySem.Spec PyProof.Rows

theorem line_ok {n : Nat} (h : n ≤ line) : n ≤ sizeLine := by
  rw [sizeLine_eq]
  unfold line at h
  omega
theorem line_lt {n : Nat} (h : n < line) : n < sizeLine := by
  rw [sizeLine_eq]
  unfold line at h
  omega

/-- where classes, names, written dicts stand -/
structure Pl where
  nm : Nat → Str
  cl : Nat → Addr
  wa : Nat → Addr

section
variable (W : Pl) (K : PySem.W.Frag)
/-- a list that is read alone -/
def Fz (K : PySem.W.Frag) (H : Hp) (a : Addr) (xs : List V) : Prop := (∃ o, H a = some (.frz o (.lst xs))) ∨
  ∃ (o : Obj) (its : Array Value) (n : Nat), K.lookup a = some o ∧ o.cls = .type "list" ∧ o.dict = none ∧ o.data = .seq its n ∧ its.size ≤ sizeLine ∧ Vals xs its.toList
theorem Fz.sq {K : PySem.W.Frag} {H : Hp} {a : Addr} {xs : List V} (h : Fz K H a xs) : SqL K H a xs := by
  rcases h with ⟨o, h⟩ | h
  · exact .inl (.inr ⟨o, h⟩)
  · exact .inr h
mutual
def RelI (ρ : List Addr) (H : Hp) : D → V → Prop
  | .non, v => v = .non
  | .bl b, v => v = .bl b
  | .int i, v => v = .int i
  | .str x, v => v = .str x
  | .tup xs, v => ∃ a ys, v = .ref a ∧ SqT K H a ys ∧ RelIs ρ H xs ys
  | .ref n, v => ∃ a, v = .ref a ∧ ρ[n]? = some a
  | .gd j, v => v = .ref (W.wa j)
  | .rl xs, v => ∃ a ys, v = .ref a ∧ Fz K H a ys ∧ RelIs ρ H xs ys
def RelIs (ρ : List Addr) (H : Hp) : List D → List V → Prop
  | [], ys => ys = []
  | x :: xs, ys => ∃ y yr, ys = y :: yr ∧ RelI ρ H x y ∧ RelIs ρ H xs yr
end
def RelK {κ : Type} (ρ : List Addr) (H : Hp) : List (κ × D) → List (κ × V) → Prop
  | [], ys => ys = []
  | (k, d) :: r, ys => ∃ v yr, ys = (k, v) :: yr ∧ RelI W K ρ H d v ∧ RelK ρ H r yr
def RelF (ρ : List Addr) (H : Hp) : List (Nat × D) → List (Str × V) → Prop
  | [], ys => ys = []
  | (k, d) :: r, ys => ∃ v yr, ys = (W.nm k, v) :: yr ∧ RelI W K ρ H d v ∧ RelF ρ H r yr
def RelO (ρ : List Addr) (H : Hp) (a : Addr) : O → Prop
  | .lst xs => ∃ ys, H a = some (.lst ys) ∧ RelIs W K ρ H xs ys
  | .dK kvs => ∃ ys, H a = some (.dK ys) ∧ RelK W K ρ H kvs ys
  | .dT kvs => ∃ ys, H a = some (.dT ys) ∧ RelK W K ρ H kvs ys
  | .ins c fs => ∃ dx ys, H a = some (.ins (W.cl c) dx ys) ∧ RelF W K ρ H fs ys
def RelS (ρ : List Addr) (H : Hp) : Sl → L2.St → Prop
  | [], ys => ys = []
  | o :: r, ys => ∃ y yr, ys = y :: yr ∧ (∀ d, o = some d → ∃ v, y = some v ∧ RelI W K ρ H d v) ∧ RelS ρ H r yr
structure Sim (ρ : List Addr) (h : Hh) (H : Hp) : Prop where
  len : ρ.length = h.length
  nd : ρ.Nodup
  at_ : ∀ (n : Nat) (o : O) (a : Addr), h[n]? = some o → ρ[n]? = some a → RelO W K ρ H a o
end
/-- no tuple is lost, nothing that is read alone -/
def Keep (K : PySem.W.Frag) (H H' : Hp) : Prop := (∀ a ys, SqT K H a ys → SqT K H' a ys) ∧ ∀ a ys, Fz K H a ys → Fz K H' a ys
theorem Keep.refl {K : PySem.W.Frag} {H : Hp} : Keep K H H := ⟨fun _ _ h => h, fun _ _ h => h⟩
theorem Keep.trans {K : PySem.W.Frag} {H H1 H2 : Hp} (a : Keep K H H1) (b : Keep K H1 H2) : Keep K H H2 := ⟨fun x y h => b.1 x y (a.1 x y h), fun x y h => b.2 x y (a.2 x y h)⟩
theorem Keep.new {K : PySem.W.Frag} {H : Hp} {p : Addr} {o : HO} (h : H p = none) : Keep K H (upd H p o) := by
  refine ⟨fun a ys q => ?_, fun a ys q => ?_⟩
  · rcases q with q | q
    · rcases q with q | ⟨ob, q⟩
      · exact .inl (.inl (by rw [upd_ne (ne_of_none q h)]; exact q))
      · exact .inl (.inr ⟨ob, by rw [upd_ne (ne_of_none q h)]; exact q⟩)
    · exact .inr q
  · rcases q with ⟨ob, q⟩ | q
    · exact .inl ⟨ob, by rw [upd_ne (ne_of_none q h)]; exact q⟩
    · exact .inr q
def notTup : HO → Prop
  | .tup _ => False
  | .frz _ _ => False
  | _ => True
theorem Keep.mut {K : PySem.W.Frag} {H : Hp} {p : Addr} {o u : HO} (h : H p = some u) (hu : notTup u) : Keep K H (upd H p o) := by
  have key : ∀ {a : Addr} {z : HO}, H a = some z → ¬ notTup z → a ≠ p := fun {a z} q nz e => by
    subst e
    rw [h] at q
    cases q
    exact nz hu
  refine ⟨fun a ys q => ?_, fun a ys q => ?_⟩
  · rcases q with q | q
    · rcases q with q | ⟨ob, q⟩
      · exact .inl (.inl (by rw [upd_ne (key q id)]; exact q))
      · exact .inl (.inr ⟨ob, by rw [upd_ne (key q id)]; exact q⟩)
    · exact .inr q
  · rcases q with ⟨ob, q⟩ | q
    · exact .inl ⟨ob, by rw [upd_ne (key q id)]; exact q⟩
    · exact .inr q

theorem pre_get {ρ ρ' : List Addr} {n : Nat} {a : Addr} (p : ρ <+: ρ') (h : ρ[n]? = some a) : ρ'[n]? = some a := by
  obtain ⟨t, rfl⟩ := p
  have hl := (List.getElem?_eq_some_iff.mp h).1
  rw [List.getElem?_append_left hl]
  exact h
section
variable {W : Pl} {K : PySem.W.Frag} {ρ ρ' : List Addr} {H H' : Hp}
mutual
theorem RelI.mono (p : ρ <+: ρ') (k : Keep K H H') : ∀ (d : D) (v : V), RelI W K ρ H d v → RelI W K ρ' H' d v
  | .non, v, h => h
  | .bl b, v, h => h
  | .int i, v, h => h
  | .str x, v, h => h
  | .tup xs, v, h => by
    obtain ⟨a, ys, e, s, r⟩ := h
    exact ⟨a, ys, e, k.1 a ys s, RelIs.mono p k xs ys r⟩
  | .ref n, v, h => by
    obtain ⟨a, e, s⟩ := h
    exact ⟨a, e, pre_get p s⟩
  | .gd j, v, h => h
  | .rl xs, v, h => by
    obtain ⟨a, ys, e, s, r⟩ := h
    exact ⟨a, ys, e, k.2 a ys s, RelIs.mono p k xs ys r⟩
theorem RelIs.mono (p : ρ <+: ρ') (k : Keep K H H') : ∀ (d : List D) (v : List V), RelIs W K ρ H d v → RelIs W K ρ' H' d v
  | [], v, h => h
  | x :: xs, v, h => by
    obtain ⟨y, yr, e, r1, r2⟩ := h
    exact ⟨y, yr, e, RelI.mono p k x y r1, RelIs.mono p k xs yr r2⟩
end
theorem RelK.mono {κ : Type} (p : ρ <+: ρ') (k : Keep K H H') : ∀ (d : List (κ × D)) (v : List (κ × V)), RelK W K ρ H d v → RelK W K ρ' H' d v
  | [], v, h => h
  | (k0, x) :: xs, v, h => by
    obtain ⟨y, yr, e, r1, r2⟩ := h
    exact ⟨y, yr, e, RelI.mono p k x y r1, RelK.mono p k xs yr r2⟩
theorem RelF.mono (p : ρ <+: ρ') (k : Keep K H H') : ∀ (d : List (Nat × D)) (v : List (Str × V)), RelF W K ρ H d v → RelF W K ρ' H' d v
  | [], v, h => h
  | (k0, x) :: xs, v, h => by
    obtain ⟨y, yr, e, r1, r2⟩ := h
    exact ⟨y, yr, e, RelI.mono p k x y r1, RelF.mono p k xs yr r2⟩
theorem RelS.mono (p : ρ <+: ρ') (k : Keep K H H') : ∀ (d : Sl) (v : L2.St), RelS W K ρ H d v → RelS W K ρ' H' d v
  | [], v, h => h
  | o :: xs, v, h => by
    obtain ⟨y, yr, e, r1, r2⟩ := h
    refine ⟨y, yr, e, fun d hd => ?_, RelS.mono p k xs yr r2⟩
    obtain ⟨u, hu, r⟩ := r1 d hd
    exact ⟨u, hu, RelI.mono p k d u r⟩
/-- an object that stands as it stood -/
theorem RelO.mono {a : Addr} {o : O} (p : ρ <+: ρ') (k : Keep K H H') (e : H' a = H a) (h : RelO W K ρ H a o) : RelO W K ρ' H' a o := by
  cases o with
  | lst xs => obtain ⟨ys, q, r⟩ := h; exact ⟨ys, e.trans q, RelIs.mono p k _ _ r⟩
  | dK xs => obtain ⟨ys, q, r⟩ := h; exact ⟨ys, e.trans q, RelK.mono p k _ _ r⟩
  | dT xs => obtain ⟨ys, q, r⟩ := h; exact ⟨ys, e.trans q, RelK.mono p k _ _ r⟩
  | ins c fs => obtain ⟨dx, ys, q, r⟩ := h; exact ⟨dx, ys, e.trans q, RelF.mono p k _ _ r⟩
theorem RelO.there {a : Addr} {o : O} (h : RelO W K ρ H a o) : ∃ u, H a = some u := by
  cases o with
  | lst xs => obtain ⟨ys, q, r⟩ := h; exact ⟨_, q⟩
  | dK xs => obtain ⟨ys, q, r⟩ := h; exact ⟨_, q⟩
  | dT xs => obtain ⟨ys, q, r⟩ := h; exact ⟨_, q⟩
  | ins c fs => obtain ⟨dx, ys, q, r⟩ := h; exact ⟨_, q⟩
variable {h : Hh}
theorem Sim.get (S : Sim W K ρ h H) {n : Nat} {o : O} (e : h[n]? = some o) : ∃ a, ρ[n]? = some a ∧ RelO W K ρ H a o := by
  have hl := (List.getElem?_eq_some_iff.mp e).1
  rw [← S.len] at hl
  exact ⟨ρ[n], List.getElem?_eq_getElem hl, S.at_ n o _ e (List.getElem?_eq_getElem hl)⟩
theorem Sim.there (S : Sim W K ρ h H) {n : Nat} {a : Addr} (e : ρ[n]? = some a) : ∃ u, H a = some u := by
  have hl := (List.getElem?_eq_some_iff.mp e).1
  rw [S.len] at hl
  exact (S.at_ n h[n] a (List.getElem?_eq_getElem hl) e).there
theorem Sim.notMem (S : Sim W K ρ h H) {p : Addr} (hp : H p = none) : p ∉ ρ := fun hm => by
  obtain ⟨n, hn, e⟩ := List.getElem_of_mem hm
  obtain ⟨u, hu⟩ := S.there (n := n) (a := p) (by rw [List.getElem?_eq_getElem hn, e])
  rw [hp] at hu
  cases hu
/-- a new thing -/
theorem Sim.alloc (S : Sim W K ρ h H) {p : Addr} {u : HO} {o : O} (hp : H p = none) (r : RelO W K (ρ ++ [p]) (upd H p u) p o) : Sim W K (ρ ++ [p]) (h ++ [o]) (upd H p u) := by
  have pre : ρ <+: ρ ++ [p] := List.prefix_append _ _
  refine ⟨by simp [S.len], ?_, fun n o' a e1 e2 => ?_⟩
  · rw [List.nodup_append]
    refine ⟨S.nd, by simp, fun a ha b hb => ?_⟩
    have : b = p := by simpa using hb
    subst this
    exact fun e => S.notMem hp (e ▸ ha)
  · by_cases hn : n < h.length
    · rw [List.getElem?_append_left hn] at e1
      rw [List.getElem?_append_left (by rw [S.len]; exact hn)] at e2
      have hr := S.at_ n o' a e1 e2
      obtain ⟨w, hw⟩ := hr.there
      exact hr.mono pre (Keep.new hp) (upd_ne (ne_of_none hw hp))
    · have hn' : n = h.length := by
        have := (List.getElem?_eq_some_iff.mp e1).1
        simp at this
        omega
      subst hn'
      rw [List.getElem?_append_right (Nat.le_refl _)] at e1
      rw [← S.len, List.getElem?_append_right (Nat.le_refl _)] at e2
      simp at e1 e2
      subst e1 e2
      exact r
/-- a thing written anew -/
theorem Sim.set (S : Sim W K ρ h H) {n : Nat} {a : Addr} {u w : HO} {o : O} (e : ρ[n]? = some a) (hw : H a = some w) (nt : notTup w) (r : RelO W K ρ (upd H a u) a o) : Sim W K ρ (h.set n o) (upd H a u) := by
  refine ⟨by simp [S.len], S.nd, fun m o' b e1 e2 => ?_⟩
  by_cases hm : m = n
  · subst hm
    rw [e] at e2
    cases e2
    have hl : m < h.length := by
      have := (List.getElem?_eq_some_iff.mp e).1
      rw [S.len] at this
      exact this
    rw [List.getElem?_set_self hl] at e1
    cases e1
    exact r
  · rw [List.getElem?_set_ne (Ne.symm hm)] at e1
    have hr := S.at_ m o' b e1 e2
    have ne : b ≠ a := fun z => by
      subst z
      obtain ⟨h1, q1⟩ := List.getElem?_eq_some_iff.mp e
      obtain ⟨h2, q2⟩ := List.getElem?_eq_some_iff.mp e2
      exact hm ((List.getElem_inj S.nd).mp (q2.trans q1.symm))
    exact hr.mono (List.prefix_refl _) (Keep.mut hw nt) (upd_ne ne)

/-! ### lists of data -/
theorem RelIs.length : ∀ {xs : List D} {ys : List V}, RelIs W K ρ H xs ys → xs.length = ys.length
  | [], ys, h => by cases h; rfl
  | x :: xs, ys, h => by
    obtain ⟨y, yr, rfl, _, r⟩ := h
    simp [RelIs.length r]
theorem RelIs.get : ∀ {xs : List D} {ys : List V} {i : Nat} {x : D}, RelIs W K ρ H xs ys → xs[i]? = some x → ∃ y, ys[i]? = some y ∧ RelI W K ρ H x y
  | [], ys, i, x, h, e => by simp at e
  | x :: xs, ys, 0, z, h, e => by
    obtain ⟨y, yr, rfl, r1, r⟩ := h
    simp at e
    subst e
    exact ⟨y, rfl, r1⟩
  | x :: xs, ys, i + 1, z, h, e => by
    obtain ⟨y, yr, rfl, r1, r⟩ := h
    exact RelIs.get (i := i) r (by simpa using e)
theorem RelIs.append : ∀ {xs xs' : List D} {ys ys' : List V}, RelIs W K ρ H xs ys → RelIs W K ρ H xs' ys' → RelIs W K ρ H (xs ++ xs') (ys ++ ys')
  | [], xs', ys, ys', h, h' => by cases h; exact h'
  | x :: xs, xs', ys, ys', h, h' => by
    obtain ⟨y, yr, rfl, r1, r⟩ := h
    exact ⟨y, yr ++ ys', rfl, r1, RelIs.append r h'⟩
theorem RelIs.take : ∀ {xs : List D} {ys : List V} (n : Nat), RelIs W K ρ H xs ys → RelIs W K ρ H (xs.take n) (ys.take n)
  | [], ys, n, h => by cases h; simp [RelIs]
  | x :: xs, ys, 0, h => by simp [RelIs]
  | x :: xs, ys, n + 1, h => by
    obtain ⟨y, yr, rfl, r1, r⟩ := h
    exact ⟨y, yr.take n, rfl, r1, RelIs.take n r⟩
theorem RelIs.drop : ∀ {xs : List D} {ys : List V} (n : Nat), RelIs W K ρ H xs ys → RelIs W K ρ H (xs.drop n) (ys.drop n)
  | [], ys, n, h => by cases h; simp [RelIs]
  | x :: xs, ys, 0, h => h
  | x :: xs, ys, n + 1, h => by
    obtain ⟨y, yr, rfl, r1, r⟩ := h
    exact RelIs.drop n r
theorem RelIs.set {x : D} {y : V} (q : RelI W K ρ H x y) : ∀ {xs : List D} {ys : List V} (n : Nat), RelIs W K ρ H xs ys → RelIs W K ρ H (xs.set n x) (ys.set n y)
  | [], ys, n, h => by cases h; simp [RelIs]
  | z :: xs, ys, 0, h => by
    obtain ⟨y', yr, rfl, r1, r⟩ := h
    exact ⟨y, yr, rfl, q, r⟩
  | z :: xs, ys, n + 1, h => by
    obtain ⟨y', yr, rfl, r1, r⟩ := h
    exact ⟨y', yr.set n y, rfl, r1, RelIs.set q n r⟩
theorem RelIs.eraseIdx : ∀ {xs : List D} {ys : List V} (n : Nat), RelIs W K ρ H xs ys → RelIs W K ρ H (xs.eraseIdx n) (ys.eraseIdx n)
  | [], ys, n, h => by cases h; simp [RelIs]
  | z :: xs, ys, 0, h => by
    obtain ⟨y', yr, rfl, r1, r⟩ := h
    exact r
  | z :: xs, ys, n + 1, h => by
    obtain ⟨y', yr, rfl, r1, r⟩ := h
    exact ⟨y', yr.eraseIdx n, rfl, r1, RelIs.eraseIdx n r⟩
theorem RelIs.reverse : ∀ {xs : List D} {ys : List V}, RelIs W K ρ H xs ys → RelIs W K ρ H xs.reverse ys.reverse
  | [], ys, h => by cases h; exact rfl
  | x :: xs, ys, h => by
    obtain ⟨y', yr, rfl, r1, r⟩ := h
    rw [List.reverse_cons, List.reverse_cons]
    exact RelIs.append (RelIs.reverse r) ⟨y', [], rfl, r1, rfl⟩
theorem RelIs.dropLast {xs : List D} {ys : List V} (h : RelIs W K ρ H xs ys) : RelIs W K ρ H xs.dropLast ys.dropLast := by
  rw [List.dropLast_eq_take, List.dropLast_eq_take, ← h.length]
  exact h.take _
theorem RelIs.rep {xs : List D} {ys : List V} (h : RelIs W K ρ H xs ys) : ∀ k : Nat, RelIs W K ρ H (List.replicate k xs).flatten (List.replicate k ys).flatten
  | 0 => rfl
  | k + 1 => by
    rw [List.replicate_succ, List.replicate_succ, List.flatten_cons, List.flatten_cons]
    exact RelIs.append h (RelIs.rep h k)
theorem RelIs.of_get : ∀ {xs : List D} {ys : List V}, xs.length = ys.length → (∀ (i : Nat) (x : D) (y : V), xs[i]? = some x → ys[i]? = some y → RelI W K ρ H x y) → RelIs W K ρ H xs ys
  | [], ys, hl, h => by
    cases ys with
    | nil => rfl
    | cons y yr => simp at hl
  | x :: xs, ys, hl, h => by
    cases ys with
    | nil => simp at hl
    | cons y yr => exact ⟨y, yr, rfl, h 0 x y rfl rfl, RelIs.of_get (by simpa using hl) fun i a b ha hb => h (i + 1) a b (by simpa using ha) (by simpa using hb)⟩
theorem RelIs.ints : ∀ {xs : List D} {ys : List V} {ns : List Int}, RelIs W K ρ H xs ys → allInts xs = some ns → ys = ns.map V.int
  | [], ys, ns, h, e => by
    cases h
    simp [allInts] at e
    subst e
    rfl
  | x :: xs, ys, ns, h, e => by
    obtain ⟨y', yr, rfl, r1, r⟩ := h
    cases x with
    | int i =>
      simp only [allInts, Option.map_eq_some_iff] at e
      obtain ⟨ms, e1, rfl⟩ := e
      have r1 : y' = V.int i := r1
      rw [r1, RelIs.ints r e1]
      rfl
    | _ => simp [allInts] at e
theorem RelIs.bls : ∀ {xs : List D} {ys : List V} {ns : List Bool}, RelIs W K ρ H xs ys → allBls xs = some ns → ys = ns.map V.bl
  | [], ys, ns, h, e => by
    cases h
    simp [allBls] at e
    subst e
    rfl
  | x :: xs, ys, ns, h, e => by
    obtain ⟨y', yr, rfl, r1, r⟩ := h
    cases x with
    | bl i =>
      simp only [allBls, Option.map_eq_some_iff] at e
      obtain ⟨ms, e1, rfl⟩ := e
      have r1 : y' = V.bl i := r1
      rw [r1, RelIs.bls r e1]
      rfl
    | _ => simp [allBls] at e
theorem RelIs.of_ints (ns : List Int) : RelIs W K ρ H (ns.map D.int) (ns.map V.int) := by
  induction ns with
  | nil => rfl
  | cons n ns ih => exact ⟨_, _, rfl, rfl, ih⟩
/-! ### pairs -/
theorem RelK.length {κ : Type} : ∀ {xs : List (κ × D)} {ys : List (κ × V)}, RelK W K ρ H xs ys → xs.length = ys.length
  | [], ys, h => by cases h; rfl
  | (k, x) :: xs, ys, h => by
    obtain ⟨y, yr, rfl, _, r⟩ := h
    simp [RelK.length r]
theorem RelK.val {κ : Type} [DecidableEq κ] {k : κ} : ∀ {xs : List (κ × D)} {ys : List (κ × V)}, RelK W K ρ H xs ys → (kget k xs = none ∧ valV ys k = none) ∨ ∃ d v, kget k xs = some d ∧ valV ys k = some v ∧ RelI W K ρ H d v
  | [], ys, h => by cases h; exact .inl ⟨rfl, rfl⟩
  | (a, x) :: xs, ys, h => by
    obtain ⟨y, yr, rfl, r1, r⟩ := h
    by_cases e : a = k
    · subst e
      exact .inr ⟨x, y, by simp [kget], valV_pos rfl, r1⟩
    · rw [show kget k ((a, x) :: xs) = kget k xs by simp [kget, e], valV_neg (by exact e)]
      exact RelK.val r
theorem RelK.any {κ : Type} [DecidableEq κ] {k : κ} : ∀ {xs : List (κ × D)} {ys : List (κ × V)}, RelK W K ρ H xs ys → (xs.any fun kv => decide (kv.1 = k)) = (ys.any fun kv => decide (kv.1 = k))
  | [], ys, h => by cases h; rfl
  | (a, x) :: xs, ys, h => by
    obtain ⟨y, yr, rfl, r1, r⟩ := h
    rw [List.any_cons, List.any_cons, RelK.any r]
theorem RelK.map {κ : Type} [DecidableEq κ] {k : κ} {d : D} {v : V} (q : RelI W K ρ H d v) : ∀ {xs : List (κ × D)} {ys : List (κ × V)}, RelK W K ρ H xs ys →
    RelK W K ρ H (xs.map fun kv => if kv.1 = k then (kv.1, d) else kv) (ys.map fun kv => if kv.1 = k then (kv.1, v) else kv)
  | [], ys, h => by cases h; rfl
  | (a, x) :: xs, ys, h => by
    obtain ⟨y, yr, rfl, r1, r⟩ := h
    rw [List.map_cons, List.map_cons]
    by_cases e : a = k
    · simp only [e, if_true]
      exact ⟨v, _, rfl, q, RelK.map q r⟩
    · simp only [e, if_false]
      exact ⟨y, _, rfl, r1, RelK.map q r⟩
theorem RelK.append {κ : Type} : ∀ {xs xs' : List (κ × D)} {ys ys' : List (κ × V)}, RelK W K ρ H xs ys → RelK W K ρ H xs' ys' → RelK W K ρ H (xs ++ xs') (ys ++ ys')
  | [], xs', ys, ys', h, h' => by cases h; exact h'
  | (a, x) :: xs, xs', ys, ys', h, h' => by
    obtain ⟨y, yr, rfl, r1, r⟩ := h
    exact ⟨y, yr ++ ys', rfl, r1, RelK.append r h'⟩
theorem RelK.put {κ : Type} [DecidableEq κ] {k : κ} {d : D} {v : V} (q : RelI W K ρ H d v) {xs : List (κ × D)} {ys : List (κ × V)} (h : RelK W K ρ H xs ys) : RelK W K ρ H (kput k d xs) (putK ys k v) := by
  unfold kput putK
  rw [h.any (k := k)]
  split
  · exact RelK.map q h
  · exact RelK.append h ⟨v, [], rfl, q, rfl⟩
/-! ### fields -/
theorem RelF.length : ∀ {xs : List (Nat × D)} {ys : List (Str × V)}, RelF W K ρ H xs ys → xs.length = ys.length
  | [], ys, h => by cases h; rfl
  | (k, x) :: xs, ys, h => by
    obtain ⟨y, yr, rfl, _, r⟩ := h
    simp [RelF.length r]
theorem RelF.val (inj : ∀ i j, W.nm i = W.nm j → i = j) {f : Nat} : ∀ {xs : List (Nat × D)} {ys : List (Str × V)}, RelF W K ρ H xs ys → (kget f xs = none ∧ ys.lookup (W.nm f) = none) ∨ ∃ d v, kget f xs = some d ∧ ys.lookup (W.nm f) = some v ∧ RelI W K ρ H d v
  | [], ys, h => by cases h; exact .inl ⟨rfl, rfl⟩
  | (a, x) :: xs, ys, h => by
    obtain ⟨y, yr, rfl, r1, r⟩ := h
    by_cases e : a = f
    · subst e
      exact .inr ⟨x, y, by simp [kget], by simp [List.lookup], r1⟩
    · have ne : ¬ W.nm f = W.nm a := fun z => e (inj _ _ z).symm
      rw [show kget f ((a, x) :: xs) = kget f xs by simp [kget, e]]
      have e2 : (W.nm f == W.nm a) = false := by simpa using ne
      rw [show List.lookup (W.nm f) ((W.nm a, y) :: yr) = List.lookup (W.nm f) yr by simp [List.lookup, e2]]
      exact RelF.val inj r
theorem RelF.put (inj : ∀ i j, W.nm i = W.nm j → i = j) {f : Nat} {d : D} {v : V} (q : RelI W K ρ H d v) : ∀ {xs : List (Nat × D)} {ys : List (Str × V)}, RelF W K ρ H xs ys → RelF W K ρ H (fput f d xs) (putF (W.nm f) v ys)
  | [], ys, h => by cases h; exact ⟨v, [], rfl, q, rfl⟩
  | (a, x) :: xs, ys, h => by
    obtain ⟨y, yr, rfl, r1, r⟩ := h
    by_cases e : a = f
    · subst e
      rw [show fput a d ((a, x) :: xs) = (a, d) :: xs by simp [fput], show putF (W.nm a) v ((W.nm a, y) :: yr) = (W.nm a, v) :: yr by simp [putF]]
      exact ⟨v, yr, rfl, q, r⟩
    · have ne : ¬ W.nm a = W.nm f := fun z => e (inj _ _ z)
      rw [show fput f d ((a, x) :: xs) = (a, x) :: fput f d xs by simp [fput, e], show putF (W.nm f) v ((W.nm a, y) :: yr) = (W.nm a, y) :: putF (W.nm f) v yr by simp [putF, ne]]
      exact ⟨y, _, rfl, r1, RelF.put inj q r⟩
/-! ### slots -/
theorem RelS.length : ∀ {s : Sl} {σ : L2.St}, RelS W K ρ H s σ → s.length = σ.length
  | [], ys, h => by cases h; rfl
  | x :: xs, ys, h => by
    obtain ⟨y, yr, rfl, _, r⟩ := h
    simp [RelS.length r]
theorem RelS.get : ∀ {s : Sl} {σ : L2.St} {i : Nat} {d : D}, RelS W K ρ H s σ → s[i]? = some (some d) → ∃ v, σ[i]? = some (some v) ∧ RelI W K ρ H d v
  | [], ys, i, d, h, e => by simp at e
  | x :: xs, ys, 0, d, h, e => by
    obtain ⟨y, yr, rfl, r1, r⟩ := h
    simp at e
    subst e
    obtain ⟨v, rfl, q⟩ := r1 d rfl
    exact ⟨v, rfl, q⟩
  | x :: xs, ys, i + 1, d, h, e => by
    obtain ⟨y, yr, rfl, r1, r⟩ := h
    exact RelS.get (i := i) r (by simpa using e)
theorem RelS.set {d : D} {v : V} (q : RelI W K ρ H d v) : ∀ {s : Sl} {σ : L2.St} (i : Nat), RelS W K ρ H s σ → RelS W K ρ H (s.set i (some d)) (σ.set i (some v))
  | [], ys, i, h => by cases h; exact rfl
  | x :: xs, ys, 0, h => by
    obtain ⟨y, yr, rfl, r1, r⟩ := h
    exact ⟨some v, yr, rfl, fun d' e => ⟨v, rfl, by cases e; exact q⟩, r⟩
  | x :: xs, ys, i + 1, h => by
    obtain ⟨y, yr, rfl, r1, r⟩ := h
    exact ⟨y, yr.set i (some v), rfl, r1, RelS.set q i r⟩
theorem RelS.drop1 : ∀ {s : Sl} {σ : L2.St} (i : Nat), RelS W K ρ H s σ → RelS W K ρ H (s.set i none) (σ.set i none)
  | [], ys, i, h => by cases h; exact rfl
  | x :: xs, ys, 0, h => by
    obtain ⟨y, yr, rfl, r1, r⟩ := h
    exact ⟨none, yr, rfl, (fun d' e => by cases e), r⟩
  | x :: xs, ys, i + 1, h => by
    obtain ⟨y, yr, rfl, r1, r⟩ := h
    exact ⟨y, yr.set i none, rfl, r1, RelS.drop1 i r⟩
theorem RelS.wipe {s : Sl} {σ : L2.St} (h : RelS W K ρ H s σ) : ∀ vs : List Nat, RelS W K ρ H (wipeD s vs) (L2.wipe σ vs)
  | [] => h
  | v :: vs => RelS.drop1 v (RelS.wipe h vs)
theorem RelS.start {ds : List D} {vs : List V} (r : RelIs W K ρ H ds vs) (n : Nat) : RelS W K ρ H (startD n ds) (vs.map some ++ List.replicate (n - vs.length) none) := by
  unfold startD
  rw [← r.length]
  generalize n - ds.length = m
  induction ds generalizing vs with
  | nil =>
    cases r
    show RelS W K ρ H (List.replicate m none) (List.replicate m none)
    induction m with
    | zero => rfl
    | succ m ih => exact ⟨none, List.replicate m none, rfl, (fun d e => by cases e), ih⟩
  | cons x xs ih =>
    obtain ⟨y, yr, rfl, r1, r⟩ := r
    exact ⟨some y, _, rfl, fun d e => ⟨y, rfl, by cases e; exact r1⟩, ih r⟩
end
end Z
end

-- ZC
section
set_option Elab.async false
set_option linter.all false
set_option maxRecDepth 100000
set_option maxHeartbeats 1000000
/-! Each operation of the machine by values. -/
namespace Z
open PySem L2 PySem.Spec PyProof.Rows
section
variable (W : Pl) (K : PySem.W.Frag)
/-- behind: the store h', a longer row of places, no tuple lost -/
def Nxt (ρ : List Addr) (H : Hp) (h' : Hh) (P : List Addr → Hp → Prop) : Prop := ∀ ρ' H', ρ <+: ρ' → Keep K H H' → Sim W K ρ' h' H' → P ρ' H'
def RetD (ρ : List Addr) (H : Hp) (d : D) (h' : Hh) (Q : VK) : Prop := Nxt W K ρ H h' fun ρ' H' => ∀ v, RelI W K ρ' H' d v → Q v H'
def rP1 (p : Prim) : V → Hp → VK → Prop := fun x H Q => ∃ ρ h d1 d h', Sim W K ρ h H ∧ RelI W K ρ H d1 x ∧ prim1 p d1 h = some (d, h') ∧ RetD W K ρ H d h' Q
def rP2 (G : GEnv) (p : Prim) : R2 := fun x y H Q => ∃ ρ h d1 d2 d h', Sim W K ρ h H ∧ RelI W K ρ H d1 x ∧ RelI W K ρ H d2 y ∧ prim2 G p d1 d2 h = some (d, h') ∧ RetD W K ρ H d h' Q
def rPN (G : GEnv) (p : Prim) : List V → Hp → VK → Prop := fun xs H Q => ∃ ρ h ds d h', Sim W K ρ h H ∧ RelIs W K ρ H ds xs ∧ primN G p ds h = some (d, h') ∧ RetD W K ρ H d h' Q
def rMt (G : GEnv) (p : Prim) : V → List V → Hp → VK → Prop := fun x xs H Q => rPN W K G p (x :: xs) H Q
end
section
variable {W : Pl} {K : PySem.W.Frag} {ρ : List Addr} {h h' : Hh} {H : Hp} {d : D} {Q : VK}
theorem RetD.here {v : V} (k : RetD W K ρ H d h Q) (S : Sim W K ρ h H) (r : RelI W K ρ H d v) : Q v H := k ρ H (List.prefix_refl _) Keep.refl S v r
theorem Sim.ext (S : Sim W K ρ h H) {p : Addr} {u : HO} (hp : H p = none) : Sim W K ρ h (upd H p u) :=
  ⟨S.len, S.nd, fun n o a e1 e2 => by
    have r := S.at_ n o a e1 e2
    obtain ⟨w, hw⟩ := r.there
    exact r.mono (List.prefix_refl _) (Keep.new hp) (upd_ne (ne_of_none hw hp))⟩
theorem pre_app {p : Addr} : ρ <+: ρ ++ [p] := List.prefix_append _ _
theorem app_at {p : Addr} : (ρ ++ [p])[ρ.length]? = some p := by simp
theorem RetD.newT {xs : List D} {ys : List V} (k : RetD W K ρ H (.tup xs) h Q) (S : Sim W K ρ h H) (r : RelIs W K ρ H xs ys) : ∀ p, H p = none → Q (.ref p) (upd H p (.tup ys)) := fun p hp =>
  k ρ _ (List.prefix_refl _) (Keep.new hp) (S.ext hp) _ ⟨p, ys, rfl, SqT.of upd_same, RelIs.mono (List.prefix_refl _) (Keep.new hp) _ _ r⟩
theorem RetD.newL {xs : List D} {ys : List V} (k : RetD W K ρ H (.ref h.length) (h ++ [.lst xs]) Q) (S : Sim W K ρ h H) (r : RelIs W K ρ H xs ys) : ∀ p, H p = none → Q (.ref p) (upd H p (.lst ys)) := fun p hp =>
  k (ρ ++ [p]) _ pre_app (Keep.new hp) (S.alloc hp ⟨ys, upd_same, RelIs.mono pre_app (Keep.new hp) _ _ r⟩) _ ⟨p, rfl, by rw [← S.len]; exact app_at⟩
theorem Sim.lst (S : Sim W K ρ h H) {n : Nat} {xs : List D} {a : Addr} (e : h[n]? = some (.lst xs)) (ea : ρ[n]? = some a) : ∃ ys, H a = some (.lst ys) ∧ RelIs W K ρ H xs ys := S.at_ n _ a e ea
theorem Sim.dK (S : Sim W K ρ h H) {n : Nat} {xs : List (Key × D)} {a : Addr} (e : h[n]? = some (.dK xs)) (ea : ρ[n]? = some a) : ∃ ys, H a = some (.dK ys) ∧ RelK W K ρ H xs ys := S.at_ n _ a e ea
theorem Sim.dT (S : Sim W K ρ h H) {n : Nat} {xs : List (List Key × D)} {a : Addr} (e : h[n]? = some (.dT xs)) (ea : ρ[n]? = some a) : ∃ ys, H a = some (.dT ys) ∧ RelK W K ρ H xs ys := S.at_ n _ a e ea
/-- a thing changed in its place -/
theorem RetD.set {n : Nat} {a : Addr} {o : O} {u w : HO} {v : V} (k : RetD W K ρ H d (h.set n o) Q) (S : Sim W K ρ h H) (ea : ρ[n]? = some a) (hw : H a = some w) (nt : notTup w) (ro : RelO W K ρ (upd H a u) a o) (r : RelI W K ρ H d v) : Q v (upd H a u) :=
  k ρ _ (List.prefix_refl _) (Keep.mut hw nt) (S.set ea hw nt ro) v (RelI.mono (List.prefix_refl _) (Keep.mut hw nt) _ _ r)
/-- what is walked or cut as a row -/
theorem Sim.seq (S : Sim W K ρ h H) {xs : List D} {v : V} (e : seqOf h d = some xs) (r : RelI W K ρ H d v) : ∃ a ys, v = .ref a ∧ RelIs W K ρ H xs ys ∧ (SqL K H a ys ∨ SqT K H a ys) := by
  cases d with
  | tup zs =>
    simp only [seqOf, Option.some.injEq] at e
    subst e
    obtain ⟨a, ys, rfl, q, r⟩ := r
    exact ⟨a, ys, rfl, r, .inr q⟩
  | rl zs =>
    simp only [seqOf, Option.some.injEq] at e
    subst e
    obtain ⟨a, ys, rfl, q, r⟩ := r
    exact ⟨a, ys, rfl, r, .inl q.sq⟩
  | ref n =>
    obtain ⟨a, rfl, ea⟩ := r
    simp only [seqOf] at e
    split at e
    · rename_i zs q
      cases e
      obtain ⟨ys, q1, r1⟩ := S.lst q ea
      exact ⟨a, ys, rfl, r1, .inl (SqL.of q1)⟩
    · cases e
  | _ => simp [seqOf] at e
mutual
theorem toPW_dp (S : Sim W K ρ h H) {rf : Nat → Option PyData} (hr : ∀ n a pd, rf n = some pd → ρ[n]? = some a → Dp K H (.ref a) pd) : ∀ (d : D) (v : V) (pd : PyData), toPW rf d = some pd → RelI W K ρ H d v → Dp K H v pd
  | .non, v, pd, e, r => by
    simp only [toPW, Option.some.injEq] at e
    subst e
    obtain rfl : v = .non := r
    exact .non
  | .bl b, v, pd, e, r => by
    simp only [toPW, Option.some.injEq] at e
    subst e
    obtain rfl : v = .bl b := r
    exact .bl b
  | .int b, v, pd, e, r => by
    simp only [toPW, Option.some.injEq] at e
    subst e
    obtain rfl : v = .int b := r
    exact .int b
  | .str b, v, pd, e, r => by
    simp only [toPW, Option.some.injEq] at e
    subst e
    obtain rfl : v = .str b := r
    exact .str b
  | .tup xs, v, pd, e, r => by
    simp only [toPW, Option.map_eq_some_iff] at e
    obtain ⟨ps, e, rfl⟩ := e
    obtain ⟨a, ys, rfl, q, r⟩ := r
    exact .tup q (toPWs_dp S hr xs ys ps e r)
  | .ref n, v, pd, e, r => by
    obtain ⟨a, rfl, ea⟩ := r
    exact hr n a pd (by simpa [toPW] using e) ea
  | .gd j, v, pd, e, r => by simp [toPW] at e
  | .rl j, v, pd, e, r => by simp [toPW] at e
theorem toPWs_dp (S : Sim W K ρ h H) {rf : Nat → Option PyData} (hr : ∀ n a pd, rf n = some pd → ρ[n]? = some a → Dp K H (.ref a) pd) : ∀ (d : List D) (v : List V) (pd : List PyData), toPWs rf d = some pd → RelIs W K ρ H d v → DpAll K H v pd
  | [], v, pd, e, r => by
    simp only [toPWs, Option.some.injEq] at e
    subst e
    cases r
    exact .nil
  | x :: xs, v, pd, e, r => by
    obtain ⟨y, yr, rfl, r1, r2⟩ := r
    simp only [toPWs] at e
    split at e
    · rename_i p ps e1 e2
      cases e
      exact .cons (toPW_dp S hr x y p e1 r1) (toPWs_dp S hr xs yr ps e2 r2)
    · cases e
end
theorem refP_dp (S : Sim W K ρ h H) : ∀ (k : Nat) (n : Nat) (a : Addr) (pd : PyData), refP h k n = some pd → ρ[n]? = some a → Dp K H (.ref a) pd
  | 0, n, a, pd, e, ea => by simp [refP] at e
  | k + 1, n, a, pd, e, ea => by
    simp only [refP] at e
    split at e
    · rename_i xs q
      simp only [Option.map_eq_some_iff] at e
      obtain ⟨ps, e, rfl⟩ := e
      obtain ⟨ys, q1, r1⟩ := S.lst q ea
      exact .lst (SqL.of q1) (toPWs_dp S (refP_dp S k) xs ys ps e r1)
    · cases e
theorem toP_dp (S : Sim W K ρ h H) {v : V} {pd : PyData} (e : toP h d = some pd) (r : RelI W K ρ H d v) : Dp K H v pd := toPW_dp S (refP_dp S 8) d v pd e r
theorem eqP_dp (S : Sim W K ρ h H) {a b : D} {x y : V} {c : Bool} (e : eqP h a b = some c) (ra : RelI W K ρ H a x) (rb : RelI W K ρ H b y) : ∃ p q, Dp K H x p ∧ Dp K H y q ∧ SeqAt.shaped p = true ∧ SeqAt.shaped q = true ∧ PyData.eqv p q = c := by
  unfold eqP at e
  split at e
  · rename_i p q e1 e2
    split at e
    · rename_i hs
      cases e
      exact ⟨p, q, toP_dp S e1 ra, toP_dp S e2 rb, hs.1, hs.2, rfl⟩
    · cases e
  · cases e
end

/-! ### operators -/
section
variable {X : Cx} {W : Pl} {G : GEnv}
theorem z_add : OpR X (binaryOp .Add) (rP2 W X.K G .add) := by
  intro pins s σ H x y v u Q I rx ry hh
  obtain ⟨ρ, h, d1, d2, d, h', S, r1, r2, e, k⟩ := hh
  simp only [prim2] at e
  split at e
  · cases e
    obtain rfl : x = _ := r1
    obtain rfl : y = _ := r2
    exact op_add pins s σ H _ _ v u Q I rx ry ⟨_, _, rfl, rfl, k.here S rfl⟩
  · split at e
    · rename_i hl
      cases e
      obtain rfl : x = _ := r1
      obtain rfl : y = _ := r2
      exact op_add_str pins s σ H _ _ v u Q I rx ry ⟨_, _, rfl, rfl, line_ok hl, k.here S rfl⟩
    · cases e
  · split at e
    · rename_i xs ys hl
      cases e
      obtain ⟨a, as, rfl, qa, ra⟩ := r1
      obtain ⟨b, bs, rfl, qb, rb⟩ := r2
      refine op_catA pins s σ H _ _ v u Q I rx ry ⟨a, b, as, bs, rfl, rfl, qa, qb, ?_, ?_⟩
      · rw [← ra.length, ← rb.length]
        exact line_ok hl
      · refine ⟨fun ee => ?_, fun _ ee => ?_, fun _ _ => k.newT S (ra.append rb)⟩
        · subst ee
          cases xs with
          | nil => exact k.here S ⟨b, bs, rfl, qb, rb⟩
          | cons z zs => exact absurd ra.length (by simp)
        · subst ee
          cases ys with
          | nil =>
            rw [List.append_nil] at k
            exact k.here S ⟨a, as, rfl, qa, ra⟩
          | cons z zs => exact absurd rb.length (by simp)
    · cases e
  · split at e
    · rename_i n m xs ys e1 e2
      split at e
      · rename_i hl
        simp only [newL, Option.some.injEq, Prod.mk.injEq] at e
        obtain ⟨rfl, rfl⟩ := e
        obtain ⟨a, rfl, ea⟩ := r1
        obtain ⟨b, rfl, eb⟩ := r2
        obtain ⟨as, qa, ra⟩ := S.lst e1 ea
        obtain ⟨bs, qb, rb⟩ := S.lst e2 eb
        exact op_cat pins s σ H _ _ v u Q I rx ry ⟨a, b, as, bs, rfl, rfl, qa, qb, by rw [← ra.length, ← rb.length]; exact line_ok hl, k.newL S (ra.append rb)⟩
      · cases e
    · cases e
  · cases e
theorem z_sub : OpR X (binaryOp .Sub) (rP2 W X.K G .sub) := by
  intro pins s σ H x y v u Q I rx ry hh
  obtain ⟨ρ, h, d1, d2, d, h', S, r1, r2, e, k⟩ := hh
  simp only [prim2] at e
  split at e
  · cases e
    obtain rfl : x = _ := r1
    obtain rfl : y = _ := r2
    exact op_sub pins s σ H _ _ v u Q I rx ry ⟨_, _, rfl, rfl, k.here S rfl⟩
  · cases e
theorem z_mul : OpR X (binaryOp .Mult) (rP2 W X.K G .mul) := by
  intro pins s σ H x y v u Q I rx ry hh
  obtain ⟨ρ, h, d1, d2, d, h', S, r1, r2, e, k⟩ := hh
  simp only [prim2] at e
  split at e
  · split at e
    · rename_i hm
      cases e
      obtain rfl : x = _ := r1
      obtain rfl : y = _ := r2
      exact op_mulW pins s σ H _ _ v u Q I rx ry ⟨_, _, rfl, rfl, (by simpa [mulOk, CMulW] using hm), k.here S rfl⟩
    · cases e
  · split at e
    · rename_i n kk _ xs e1
      split at e
      · rename_i hl
        simp only [newL, Option.some.injEq, Prod.mk.injEq] at e
        obtain ⟨rfl, rfl⟩ := e
        obtain ⟨a, rfl, ea⟩ := r1
        obtain rfl : y = _ := r2
        obtain ⟨as, qa, ra⟩ := S.lst e1 ea
        refine op_rep pins s σ H _ _ v u Q I rx ry ⟨a, kk, as, rfl, rfl, qa, ?_, ?_, ?_, k.newL S (ra.rep _)⟩
        · omega
        · omega
        · rw [← ra.length]
          exact line_ok hl.2.2
      · cases e
    · cases e
  · cases e
theorem z_fdiv : OpR X (binaryOp .FloorDiv) (rP2 W X.K G .fdiv) := by
  intro pins s σ H x y v u Q I rx ry hh
  obtain ⟨ρ, h, d1, d2, d, h', S, r1, r2, e, k⟩ := hh
  simp only [prim2] at e
  split at e
  · split at e
    · rename_i i j hm
      cases e
      obtain rfl : x = _ := r1
      obtain rfl : y = _ := r2
      simp only [divOk, Bool.or_eq_true, decide_eq_true_eq] at hm
      rcases hm with hm | hm
      · exact op_fdivN pins s σ H _ _ v u Q I rx ry ⟨_, _, rfl, rfl, hm, k.here S rfl⟩
      · have e2 : i.fdiv j = i / j := Int.fdiv_eq_ediv_of_nonneg _ (Int.le_of_lt hm.1)
        rw [e2] at k
        exact op_fdivW pins s σ H _ _ v u Q I rx ry ⟨_, _, rfl, rfl, hm, k.here S rfl⟩
    · cases e
  · cases e
theorem z_mod : OpR X (binaryOp .Mod) (rP2 W X.K G .mod) := by
  intro pins s σ H x y v u Q I rx ry hh
  obtain ⟨ρ, h, d1, d2, d, h', S, r1, r2, e, k⟩ := hh
  simp only [prim2] at e
  split at e
  · split at e
    · rename_i i j hm
      cases e
      obtain rfl : x = _ := r1
      obtain rfl : y = _ := r2
      exact op_modN pins s σ H _ _ v u Q I rx ry ⟨_, _, rfl, rfl, hm, k.here S rfl⟩
    · cases e
  · cases e
theorem z_pow : OpR X (binaryOp .Pow) (rP2 W X.K G .pow) := by
  intro pins s σ H x y v u Q I rx ry hh
  obtain ⟨ρ, h, d1, d2, d, h', S, r1, r2, e, k⟩ := hh
  simp only [prim2] at e
  split at e
  · split at e
    · rename_i i j hm
      cases e
      obtain rfl : x = _ := r1
      obtain rfl : y = _ := r2
      exact op_pow pins s σ H _ _ v u Q I rx ry ⟨_, _, rfl, rfl, (by simpa [powOk, CPow] using hm), k.here S rfl⟩
    · cases e
  · cases e
theorem z_neg : UnR X (unaryOp .USub) (rP1 W X.K .neg) := by
  intro pins s σ H x v Q I rx hh
  obtain ⟨ρ, h, d1, d, h', S, r1, e, k⟩ := hh
  simp only [prim1] at e
  split at e
  · cases e
    obtain rfl : x = _ := r1
    exact un_neg pins s σ H _ v Q I rx ⟨_, rfl, k.here S rfl⟩
  · cases e
theorem z_eq (hu : X.A.units + 64 < cLine) : OpR X (compareOp .Eq) (rP2 W X.K G .eq) := by
  intro pins s σ H x y v u Q I rx ry hh
  obtain ⟨ρ, h, d1, d2, d, h', S, r1, r2, e, k⟩ := hh
  simp only [prim2] at e
  split at e
  · rename_i r q
    cases e
    obtain ⟨p, pq, a, b, c, f, g⟩ := eqP_dp S q r1 r2
    refine op_eqD hu pins s σ H _ _ v u Q I rx ry ⟨p, pq, a, b, c, f, ?_⟩
    rw [g]
    exact k.here S rfl
  · cases e
theorem z_ne (hu : X.A.units + 64 < cLine) : OpR X (compareOp .NotEq) (rP2 W X.K G .ne) := by
  intro pins s σ H x y v u Q I rx ry hh
  obtain ⟨ρ, h, d1, d2, d, h', S, r1, r2, e, k⟩ := hh
  simp only [prim2] at e
  split at e
  · rename_i r q
    cases e
    obtain ⟨p, pq, a, b, c, f, g⟩ := eqP_dp S q r1 r2
    refine op_neD hu pins s σ H _ _ v u Q I rx ry ⟨p, pq, a, b, c, f, ?_⟩
    rw [g]
    exact k.here S rfl
  · cases e
theorem z_lt : OpR X (compareOp .Lt) (rP2 W X.K G .lt) := by
  intro pins s σ H x y v u Q I rx ry hh
  obtain ⟨ρ, h, d1, d2, d, h', S, r1, r2, e, k⟩ := hh
  simp only [prim2] at e
  split at e
  · cases e
    obtain rfl : x = _ := r1
    obtain rfl : y = _ := r2
    exact op_lt pins s σ H _ _ v u Q I rx ry ⟨_, _, rfl, rfl, k.here S rfl⟩
  · cases e
theorem z_le : OpR X (compareOp .LtE) (rP2 W X.K G .le) := by
  intro pins s σ H x y v u Q I rx ry hh
  obtain ⟨ρ, h, d1, d2, d, h', S, r1, r2, e, k⟩ := hh
  simp only [prim2] at e
  split at e
  · cases e
    obtain rfl : x = _ := r1
    obtain rfl : y = _ := r2
    exact op_le pins s σ H _ _ v u Q I rx ry ⟨_, _, rfl, rfl, k.here S rfl⟩
  · cases e
theorem z_gt : OpR X (compareOp .Gt) (rP2 W X.K G .gt) := by
  intro pins s σ H x y v u Q I rx ry hh
  obtain ⟨ρ, h, d1, d2, d, h', S, r1, r2, e, k⟩ := hh
  simp only [prim2] at e
  split at e
  · cases e
    obtain rfl : x = _ := r1
    obtain rfl : y = _ := r2
    exact op_gt pins s σ H _ _ v u Q I rx ry ⟨_, _, rfl, rfl, k.here S rfl⟩
  · cases e
theorem z_ge : OpR X (compareOp .GtE) (rP2 W X.K G .ge) := by
  intro pins s σ H x y v u Q I rx ry hh
  obtain ⟨ρ, h, d1, d2, d, h', S, r1, r2, e, k⟩ := hh
  simp only [prim2] at e
  split at e
  · cases e
    obtain rfl : x = _ := r1
    obtain rfl : y = _ := r2
    exact op_ge pins s σ H _ _ v u Q I rx ry ⟨_, _, rfl, rfl, k.here S rfl⟩
  · cases e
theorem keyOf_rel {ρ : List Addr} {H : Hp} {d : D} {v : V} {k : Key} {K : PySem.W.Frag} (e : keyOf d = some k) (r : RelI W K ρ H d v) : v = kV k := by
  cases d with
  | int i => simp only [keyOf, Option.some.injEq] at e; subst e; exact r
  | str i => simp only [keyOf, Option.some.injEq] at e; subst e; exact r
  | _ => simp [keyOf] at e
/-- x in c: what it asks -/
theorem in_cases {ρ : List Addr} {h : Hh} {H : Hp} {K : PySem.W.Frag} {d1 d2 : D} {x y : V} {r : Bool} (S : Sim W K ρ h H) (e : inD h d1 d2 = some r) (r1 : RelI W K ρ H d1 x) (r2 : RelI W K ρ H d2 y) :
    (∃ a o, y = .ref a ∧ DGet H a x o ∧ o.isSome = r) ∨ (∃ p ds, Dp K H x p ∧ (Dp K H y (.list ds) ∨ Dp K H y (.tuple ds)) ∧ SeqAt.shaped p = true ∧ SeqAt.shaped (.list ds) = true ∧ (ds.any fun z => PyData.eqv z p) = r) := by
  have fin : ∀ {dx : PyData} {ds : List PyData}, inP dx ds = some r → SeqAt.shaped dx = true ∧ SeqAt.shaped (.list ds) = true ∧ (ds.any fun z => PyData.eqv z dx) = r := fun {dx ds} e => by
    unfold inP at e
    split at e
    · rename_i hs
      cases e
      exact ⟨hs.1, hs.2, rfl⟩
    · cases e
  unfold inD at e
  split at e
  · rename_i n
    obtain ⟨a, rfl, ea⟩ := r2
    split at e
    · rename_i kvs q
      split at e
      · rename_i k qk
        cases e
        obtain ⟨ys, q1, rk⟩ := S.dK q ea
        have ex := keyOf_rel qk r1
        subst ex
        refine .inl ⟨a, valV ys k, rfl, DGet.k q1, ?_⟩
        rcases rk.val (k := k) with ⟨z1, z2⟩ | ⟨dd, vv, z1, z2, _⟩ <;> rw [z1, z2] <;> rfl
      · cases e
    · rename_i xs q
      split at e
      · rename_i dx ds e1 e2
        obtain ⟨s1, s2, s3⟩ := fin e
        obtain ⟨ys, q1, rl⟩ := S.lst q ea
        exact .inr ⟨dx, ds, toP_dp S e1 r1, .inl (.lst (SqL.of q1) (toPWs_dp S (refP_dp S 8) xs ys ds e2 rl)), s1, s2, s3⟩
      · cases e
    · cases e
  · rename_i xs
    split at e
    · rename_i dx ds e1 e2
      obtain ⟨s1, s2, s3⟩ := fin e
      obtain ⟨a, ys, rfl, q1, rl⟩ := r2
      exact .inr ⟨dx, ds, toP_dp S e1 r1, .inr (.tup q1 (toPWs_dp S (refP_dp S 8) xs ys ds e2 rl)), s1, s2, s3⟩
    · cases e
  · cases e
theorem z_in (hu : X.A.units + 65 < cLine) : OpR X (compareOp .In) (rP2 W X.K G .inn) := by
  intro pins s σ H x y v u Q I rx ry hh
  obtain ⟨ρ, h, d1, d2, d, h', S, r1, r2, e, k⟩ := hh
  simp only [prim2] at e
  split at e
  · rename_i r q
    cases e
    rcases in_cases S q r1 r2 with ⟨a, o, rfl, g, eo⟩ | ⟨p, ds, hp, hy | hy, s1, s2, eo⟩
    · obtain rfl : u = Value.ref a := ry
      refine d_in (by omega) I g rx fun s' I' => ⟨.bl o.isSome, H, I', rfl, ?_⟩
      rw [eo]
      exact k.here S rfl
    · refine op_inD hu pins s σ H _ _ v u Q I rx ry ⟨p, ds, hp, hy, s1, s2, ?_⟩
      rw [eo]
      exact k.here S rfl
    · obtain ⟨as, q1⟩ := Dp.reads I p x v hp rx
      obtain ⟨bs, q2⟩ := Dp.reads I (.tuple ds) y u hy ry
      refine SeqAt.in_tuple_reads q2 q1 (SeqAt.canLay_of_shaped s2) (SeqAt.canLay_of_shaped s1) (room_in_shaped s1 hu) ⟨.bl _, H, I, rfl, ?_⟩
      rw [eo]
      exact k.here S rfl
  · cases e
theorem z_nin (hu : X.A.units + 65 < cLine) : OpR X (compareOp .NotIn) (rP2 W X.K G .nin) := by
  intro pins s σ H x y v u Q I rx ry hh
  obtain ⟨ρ, h, d1, d2, d, h', S, r1, r2, e, k⟩ := hh
  simp only [prim2] at e
  split at e
  · rename_i r q
    cases e
    rcases in_cases S q r1 r2 with ⟨a, o, rfl, g, eo⟩ | ⟨p, ds, hp, hy | hy, s1, s2, eo⟩
    · obtain rfl : u = Value.ref a := ry
      refine d_notIn (by omega) I g rx fun s' I' => ⟨.bl (!o.isSome), H, I', rfl, ?_⟩
      rw [eo]
      exact k.here S rfl
    · refine op_notInD hu pins s σ H _ _ v u Q I rx ry ⟨p, ds, hp, hy, s1, s2, ?_⟩
      rw [eo]
      exact k.here S rfl
    · obtain ⟨as, q1⟩ := Dp.reads I p x v hp rx
      obtain ⟨bs, q2⟩ := Dp.reads I (.tuple ds) y u hy ry
      refine SeqAt.notIn_tuple_reads q2 q1 (SeqAt.canLay_of_shaped s2) (SeqAt.canLay_of_shaped s1) (room_in_shaped s1 hu) ⟨.bl _, H, I, rfl, ?_⟩
      rw [eo]
      exact k.here S rfl
  · cases e
/-- written dicts: what a look-up gives -/
def WdOk (W : Pl) (K : PySem.W.Frag) (P : Program) (w : World) (G : GEnv) : Prop := ∀ (j : Nat) (k : Key) (d : D), kget k (G.wd j) = some d → ∃ z : V, (∀ ρ H, RelI W K ρ H d z) ∧ ∀ (X : Cx), X.prog = P → X.w = w → X.K = K →
  ∀ (value slice : Expr) (pins : List (Addr × Obj)) (s : Shared) (σ : L2.St) (H : Hp) (u : Value) (Q : VK), Inv X pins σ H s → RelV (kV k) u → Q z H →
    subscripted slice false (.ref (W.wa j)) u = operate [.ref (W.wa j), u] (getItem (.ref (W.wa j)) u) → wpAny (model X.prog X.w) X.A (subscriptTail value slice (.ref (W.wa j)) u) (EP X pins σ Q) X.xe s
theorem z_ix (hu : X.A.units + 65 < cLine) (hw : WdOk W X.K X.prog X.w G) : IxR X (rP2 W X.K G .ix) := by
  intro value slice pins s σ H x y v u Q I rx ry hh hs
  obtain ⟨ρ, h, d1, d2, d, h', S, r1, r2, e, k⟩ := hh
  simp only [prim2] at e
  split at e
  · rename_i r q
    cases e
    have at_get : ∀ {xs : List D} {ys : List V} {i : Int}, RelIs W X.K ρ H xs ys → atI xs i = some d → ∃ v, atI ys i = some v ∧ RelI W X.K ρ H d v := fun {xs ys i} rl ea => by
      unfold atI at ea ⊢
      rw [← rl.length]
      cases ej : ixN xs.length i with
      | none => rw [ej] at ea; cases ea
      | some j =>
        rw [ej] at ea
        exact rl.get ea
    unfold ixD at q
    split at q
    · rename_i xs i
      obtain ⟨a, ys, rfl, qa, rl⟩ := r1
      obtain rfl : y = _ := r2
      obtain ⟨z, ez, rz⟩ := at_get rl q
      exact ix_tup value slice pins s σ H _ _ v u Q I rx ry ⟨a, ys, i, z, rfl, rfl, qa, ez, k.here S rz⟩ hs
    · rename_i xs i
      obtain ⟨a, ys, rfl, qa, rl⟩ := r1
      obtain rfl : y = _ := r2
      obtain ⟨z, ez, rz⟩ := at_get rl q
      exact ix_list value slice pins s σ H _ _ v u Q I rx ry ⟨a, ys, i, z, rfl, rfl, qa.sq, ez, k.here S rz⟩ hs
    · rename_i _ j
      split at q
      · rename_i kk qk
        have ex := keyOf_rel qk r2
        subst ex
        obtain rfl : x = _ := r1
        obtain rfl : v = _ := rx
        obtain ⟨z, hz, hx⟩ := hw j kk d q
        exact hx X rfl rfl rfl value slice pins s σ H u Q I ry (k.here S (hz _ _)) hs
      · cases q
    · rename_i n _
      obtain ⟨a, rfl, ea⟩ := r1
      split at q
      · rename_i xs qh
        split at q
        · rename_i i
          obtain rfl : y = _ := r2
          obtain ⟨ys, q1, rl⟩ := S.lst qh ea
          obtain ⟨z, ez, rz⟩ := at_get rl q
          exact ix_list value slice pins s σ H _ _ v u Q I rx ry ⟨a, ys, i, z, rfl, rfl, SqL.of q1, ez, k.here S rz⟩ hs
        · cases q
      · rename_i kvs qh
        split at q
        · rename_i kk qk
          have ex := keyOf_rel qk r2
          subst ex
          obtain ⟨ys, q1, rk⟩ := S.dK qh ea
          rcases rk.val (k := kk) with ⟨z1, z2⟩ | ⟨dd, vv, z1, z2, rz⟩
          · rw [z1] at q
            cases q
          · rw [z1] at q
            cases q
            obtain rfl : v = Value.ref a := rx
            have g : DGet H a (kV kk) (some vv) := by
              rw [← z2]
              exact DGet.k q1
            refine tail_any (dict_typeIs I g) PySem.F.slot_dict_getitem.lookup (d_getItem (by omega) I g ry fun w' s3 I3 rw' => ⟨vv, H, I3, rw', k.here S rz⟩) hs
        · cases q
      · cases q
    · cases q
  · cases e

/-! ### calls -/
theorem z_abs : CallR X (.builtin "abs") (rPN W X.K G .abs) := by
  intro pins s σ H xs us Q I rs hh
  obtain ⟨ρ, h, ds, d, h', S, r1, e, k⟩ := hh
  unfold primN at e
  split at e
  · obtain ⟨y, yr, rfl, r2, r3⟩ := r1
    obtain rfl : yr = [] := r3
    simp only [prim1] at e
    split at e
    · cases e
      obtain rfl : y = _ := r2
      exact call_abs pins s σ H _ us Q I rs ⟨_, rfl, k.here S rfl⟩
    · cases e
  · simp [prim2] at e
  · cases e
theorem z_int : CallR X (.type "int") (rPN W X.K G .toInt) := by
  intro pins s σ H xs us Q I rs hh
  obtain ⟨ρ, h, ds, d, h', S, r1, e, k⟩ := hh
  unfold primN at e
  split at e
  · obtain ⟨y, yr, rfl, r2, r3⟩ := r1
    obtain rfl : yr = [] := r3
    simp only [prim1] at e
    split at e
    · cases e
      obtain rfl : y = _ := r2
      exact call_int1 pins s σ H _ us Q I rs (.inl ⟨_, rfl, k.here S rfl⟩)
    · cases e
      obtain rfl : y = _ := r2
      exact call_int1 pins s σ H _ us Q I rs (.inr ⟨_, rfl, k.here S rfl⟩)
    · cases e
  · simp [prim2] at e
  · cases e
theorem z_gcd : CallR X (.builtin "math.gcd") (rPN W X.K G .gcd) := by
  intro pins s σ H xs us Q I rs hh
  obtain ⟨ρ, h, ds, d, h', S, r1, e, k⟩ := hh
  unfold primN at e
  split at e
  · simp [prim1] at e
  · obtain ⟨y, yr, rfl, r2, r3⟩ := r1
    obtain ⟨z, zr, rfl, r4, r5⟩ := r3
    obtain rfl : zr = [] := r5
    simp only [prim2] at e
    split at e
    · cases e
      obtain rfl : y = _ := r2
      obtain rfl : z = _ := r4
      exact cr_gcd pins s σ H _ us Q I rs ⟨_, _, rfl, k.here S rfl⟩
    · cases e
  · cases e
theorem z_max2 (hc : X.calm = true) : CallR X (.builtin "max") (rPN W X.K G .max2) := by
  intro pins s σ H xs us Q I rs hh
  obtain ⟨ρ, h, ds, d, h', S, r1, e, k⟩ := hh
  unfold primN at e
  split at e
  · simp [prim1] at e
  · obtain ⟨y, yr, rfl, r2, r3⟩ := r1
    obtain ⟨z, zr, rfl, r4, r5⟩ := r3
    obtain rfl : zr = [] := r5
    simp only [prim2] at e
    split at e
    · cases e
      obtain rfl : y = _ := r2
      obtain rfl : z = _ := r4
      exact call_max2 hc pins s σ H _ us Q I rs ⟨_, _, rfl, k.here S rfl⟩
    · cases e
  · cases e
theorem z_len : CallR X (.builtin "len") (rPN W X.K G .len) := by
  intro pins s σ H xs us Q I rs hh
  obtain ⟨ρ, h, ds, d, h', S, r1, e, k⟩ := hh
  unfold primN at e
  split at e
  · obtain ⟨y, yr, rfl, r2, r3⟩ := r1
    obtain rfl : yr = [] := r3
    simp only [prim1] at e
    split at e
    · rename_i n
      obtain ⟨a, rfl, ea⟩ := r2
      split at e
      · rename_i kvs q
        cases e
        obtain ⟨ys, q1, rk⟩ := S.dK q ea
        have kk := k.here S (v := .int kvs.length) rfl
        rw [rk.length] at kk
        exact call_lenD pins s σ H _ us Q I rs ⟨a, ys, rfl, q1, kk⟩
      · rename_i kvs q
        cases e
        obtain ⟨ys, q1, rk⟩ := S.lst q ea
        have kk := k.here S (v := .int kvs.length) rfl
        rw [rk.length] at kk
        exact call_len_seq pins s σ H _ us Q I rs ⟨a, ys, rfl, .inl (SqL.of q1), kk⟩
      · cases e
    · cases e
      obtain ⟨a, ys, rfl, q1, rk⟩ := r2
      have kk := k.here S (v := .int _) rfl
      rw [rk.length] at kk
      exact call_len_seq pins s σ H _ us Q I rs ⟨a, ys, rfl, .inr q1, kk⟩
    · cases e
      obtain ⟨a, ys, rfl, q1, rk⟩ := r2
      have kk := k.here S (v := .int _) rfl
      rw [rk.length] at kk
      exact call_len_seq pins s σ H _ us Q I rs ⟨a, ys, rfl, .inl q1.sq, kk⟩
    · cases e
  · simp [prim2] at e
  · cases e
theorem z_list : CallR X (.type "list") (rPN W X.K G .list) := by
  intro pins s σ H xs us Q I rs hh
  obtain ⟨ρ, h, ds, d, h', S, r1, e, k⟩ := hh
  unfold primN at e
  split at e
  · obtain ⟨y, yr, rfl, r2, r3⟩ := r1
    obtain rfl : yr = [] := r3
    simp only [prim1] at e
    split at e
    · rename_i zs q
      simp only [newL, Option.some.injEq, Prod.mk.injEq] at e
      obtain ⟨rfl, rfl⟩ := e
      obtain ⟨a, ys, rfl, rl, sq⟩ := S.seq q r2
      exact call_list_of pins s σ H _ us Q I rs ⟨a, ys, rfl, sq, k.newL S rl⟩
    · cases e
  · simp [prim2] at e
  · cases e
theorem z_tuple : CallR X (.type "tuple") (rPN W X.K G .tuple) := by
  intro pins s σ H xs us Q I rs hh
  obtain ⟨ρ, h, ds, d, h', S, r1, e, k⟩ := hh
  unfold primN at e
  split at e
  · obtain ⟨y, yr, rfl, r2, r3⟩ := r1
    obtain rfl : yr = [] := r3
    simp only [prim1] at e
    split at e
    · rename_i zs q
      cases e
      obtain ⟨a, ys, rfl, rl, sq⟩ := S.seq q r2
      refine call_tuple_of pins s σ H _ us Q I rs ⟨a, ys, rfl, ?_⟩
      rcases sq with sq | sq
      · exact .inl ⟨sq, k.newT S rl⟩
      · exact .inr ⟨sq, k.here S ⟨a, ys, rfl, sq, rl⟩⟩
    · cases e
  · simp [prim2] at e
  · cases e
theorem z_sum (hc : X.calm = true) : CallR X (.builtin "sum") (rPN W X.K G .sum) := by
  intro pins s σ H xs us Q I rs hh
  obtain ⟨ρ, h, ds, d, h', S, r1, e, k⟩ := hh
  unfold primN at e
  split at e
  · obtain ⟨y, yr, rfl, r2, r3⟩ := r1
    obtain rfl : yr = [] := r3
    simp only [prim1] at e
    split at e
    · obtain ⟨a, rfl, ea⟩ := r2
      split at e
      · rename_i zs q
        split at e
        · rename_i ns qn
          cases e
          obtain ⟨ys, q1, rl⟩ := S.lst q ea
          have ey := rl.ints qn
          subst ey
          exact cr_sum hc pins s σ H _ us Q I rs ⟨a, ns, rfl, SqL.of q1, k.here S rfl⟩
        · cases e
      · cases e
    · cases e
  · simp [prim2] at e
  · cases e
theorem z_all (hc : X.calm = true) : CallR X (.builtin "all") (rPN W X.K G .all) := by
  intro pins s σ H xs us Q I rs hh
  obtain ⟨ρ, h, ds, d, h', S, r1, e, k⟩ := hh
  unfold primN at e
  split at e
  · obtain ⟨y, yr, rfl, r2, r3⟩ := r1
    obtain rfl : yr = [] := r3
    simp only [prim1] at e
    split at e
    · obtain ⟨a, rfl, ea⟩ := r2
      split at e
      · rename_i zs q
        split at e
        · rename_i ns qn
          cases e
          obtain ⟨ys, q1, rl⟩ := S.lst q ea
          have ey := rl.bls qn
          subst ey
          exact cr_all hc pins s σ H _ us Q I rs ⟨a, ns, rfl, SqL.of q1, k.here S rfl⟩
        · cases e
      · cases e
    · cases e
  · simp [prim2] at e
  · cases e
theorem z_any (hc : X.calm = true) : CallR X (.builtin "any") (rPN W X.K G .any) := by
  intro pins s σ H xs us Q I rs hh
  obtain ⟨ρ, h, ds, d, h', S, r1, e, k⟩ := hh
  unfold primN at e
  split at e
  · obtain ⟨y, yr, rfl, r2, r3⟩ := r1
    obtain rfl : yr = [] := r3
    simp only [prim1] at e
    split at e
    · obtain ⟨a, rfl, ea⟩ := r2
      split at e
      · rename_i zs q
        split at e
        · rename_i ns qn
          cases e
          obtain ⟨ys, q1, rl⟩ := S.lst q ea
          have ey := rl.bls qn
          subst ey
          exact cr_any hc pins s σ H _ us Q I rs ⟨a, ns, rfl, SqL.of q1, k.here S rfl⟩
        · cases e
      · cases e
    · cases e
  · simp [prim2] at e
  · cases e
/-! ### methods -/
theorem z_append : MtM X "list.append" (rMt W X.K G .append) := by
  intro pins s σ H x xs v us Q I rx rs hh
  obtain ⟨ρ, h, ds, d, h', S, r1, e, k⟩ := hh
  unfold primN at e
  split at e
  · simp [prim1] at e
  · obtain ⟨y, yr, e1, r2, r3⟩ := r1
    obtain ⟨z, zr, rfl, r4, r5⟩ := r3
    obtain rfl : zr = [] := r5
    simp only [List.cons.injEq] at e1
    obtain ⟨rfl, rfl⟩ := e1
    simp only [prim2] at e
    split at e
    · rename_i n
      obtain ⟨a, rfl, ea⟩ := r2
      split at e
      · rename_i zs q
        split at e
        · rename_i hl
          cases e
          obtain ⟨ys, q1, rl⟩ := S.lst q ea
          refine mt_append pins s σ H _ _ v us Q I rx rs ⟨a, ys, z, rfl, rfl, q1, by rw [← rl.length]; exact line_lt hl, ?_⟩
          refine k.set S ea q1 trivial ⟨_, upd_same, ?_⟩ rfl
          exact RelIs.mono (List.prefix_refl _) (Keep.mut q1 trivial) _ _ (rl.append ⟨z, [], rfl, r4, rfl⟩)
        · cases e
      · cases e
    · cases e
  · cases e
theorem z_pop : MtM X "list.pop" (rMt W X.K G .pop) := by
  intro pins s σ H x xs v us Q I rx rs hh
  obtain ⟨ρ, h, ds, d, h', S, r1, e, k⟩ := hh
  unfold primN at e
  split at e
  · obtain ⟨y, yr, e1, r2, r3⟩ := r1
    obtain rfl : yr = [] := r3
    simp only [List.cons.injEq] at e1
    obtain ⟨rfl, rfl⟩ := e1
    simp only [prim1] at e
    split at e
    · rename_i n
      obtain ⟨a, rfl, ea⟩ := r2
      split at e
      · rename_i zs q
        split at e
        · rename_i w hw
          cases e
          obtain ⟨ys, q1, rl⟩ := S.lst q ea
          have hw' : zs[zs.length - 1]? = some d := by
            rw [List.getLast?_eq_getElem?] at hw
            exact hw
          obtain ⟨z, ez, rz⟩ := rl.get hw'
          rw [rl.length] at ez
          refine mt_pop pins s σ H _ _ v us Q I rx rs ⟨a, ys, z, rfl, rfl, q1, ez, ?_⟩
          refine k.set S ea q1 trivial ⟨_, upd_same, ?_⟩ rz
          exact RelIs.mono (List.prefix_refl _) (Keep.mut q1 trivial) _ _ rl.dropLast
        · cases e
      · cases e
    · cases e
  · simp [prim2] at e
  · cases e
theorem z_popAt : MtM X "list.pop" (rMt W X.K G .popAt) := by
  intro pins s σ H x xs v us Q I rx rs hh
  obtain ⟨ρ, h, ds, d, h', S, r1, e, k⟩ := hh
  unfold primN at e
  split at e
  · simp [prim1] at e
  · obtain ⟨y, yr, e1, r2, r3⟩ := r1
    obtain ⟨z, zr, rfl, r4, r5⟩ := r3
    obtain rfl : zr = [] := r5
    simp only [List.cons.injEq] at e1
    obtain ⟨rfl, rfl⟩ := e1
    simp only [prim2] at e
    split at e
    · rename_i n i
      obtain ⟨a, rfl, ea⟩ := r2
      obtain rfl : z = _ := r4
      split at e
      · rename_i zs q
        split at e
        · rename_i kk hk
          split at e
          · rename_i w hw
            cases e
            obtain ⟨ys, q1, rl⟩ := S.lst q ea
            obtain ⟨c1, c2, c3, c4⟩ := ixN_seq hk
            obtain ⟨t, et, rt⟩ := rl.get hw
            have hn := line63
            have hz := (I.lstM q1).1
            rw [← rl.length] at hz
            refine mt_popAt pins s σ H _ _ v us Q I rx rs ⟨a, ys, i, kk, t, rfl, rfl, q1, by omega, by omega, by rw [← rl.length]; exact c1, et, ?_⟩
            refine k.set S ea q1 trivial ⟨_, upd_same, ?_⟩ rt
            exact RelIs.mono (List.prefix_refl _) (Keep.mut q1 trivial) _ _ (rl.eraseIdx kk)
          · cases e
        · cases e
      · cases e
    · cases e
  · cases e
end
end Z
end

-- ZCb
section
set_option Elab.async false
set_option linter.all false
set_option maxRecDepth 100000
set_option maxHeartbeats 2000000
/-! sorted, min, sum of lists, t[::-1], by values. -/
namespace Z
open PySem L2 PySem.Spec PyProof.Rows PySem.W
section
variable {X : Cx} {W : Pl} {G : GEnv}
/-- what a Value stands for -/
def StD (W : Pl) (K : PySem.W.Frag) (ρ : List Addr) (H : Hp) (v : Value) (d : D) : Prop := ∃ x : V, RelV x v ∧ RelI W K ρ H d x
theorem each_of {K : PySem.W.Frag} {ρ : List Addr} {H : Hp} : ∀ {xs : List D} {ys : List V} {us : List Value}, RelIs W K ρ H xs ys → Vals ys us → EachIs (StD W K ρ H) us xs
  | [], ys, us, r, v => by
    cases r
    cases v
    exact .nil
  | x :: xs, ys, us, r, v => by
    obtain ⟨y, yr, rfl, r1, r2⟩ := r
    cases v with
    | cons v1 v2 => exact .cons ⟨y, v1, r1⟩ (each_of r2 v2)
theorem of_each {K : PySem.W.Frag} {ρ : List Addr} {H : Hp} : ∀ {us : List Value} {xs : List D}, EachIs (StD W K ρ H) us xs → ∃ ys : List V, RelIs W K ρ H xs ys ∧ Vals ys us
  | _, _, .nil => ⟨[], rfl, .nil⟩
  | _, _, .cons ⟨y, v1, r1⟩ t => by
    obtain ⟨ys, r2, v2⟩ := of_each t
    exact ⟨y :: ys, ⟨y, ys, rfl, r1, r2⟩, .cons v1 v2⟩
theorem enc_dp {K : PySem.W.Frag} {ρ : List Addr} {h : Hh} {H : Hp} {d : D} {v : V} (S : Sim W K ρ h H) (e : (toP h d).isSome = true) (r : RelI W K ρ H d v) : Dp K H v (encD h d) := by
  obtain ⟨p, hp⟩ := Option.isSome_iff_exists.mp e
  unfold encD
  rw [hp]
  exact toP_dp S hp r
theorem data_facts {h : Hh} {xs : List D} (hb : dataB h xs = true) : (∀ d ∈ xs, (toP h d).isSome = true) ∧ AllAlike (xs.map (encD h)) ∧ (∀ d ∈ xs, encD h d ≠ .none) ∧ PyData.depthAll (xs.map (encD h)) ≤ 50 := by
  simp only [dataB, Bool.and_eq_true, List.all_eq_true, decide_eq_true_eq, Bool.not_eq_true'] at hb
  obtain ⟨⟨⟨h1, h2⟩, h3⟩, h4⟩ := hb
  refine ⟨h1, fun d hd d' hd' => ?_, fun d hd z => ?_, h4⟩
  · obtain ⟨x, hx, rfl⟩ := List.mem_map.mp hd
    obtain ⟨y, hy, rfl⟩ := List.mem_map.mp hd'
    exact h2 x hx y hy
  · have := h3 d hd
    rw [z] at this
    cases this
theorem depth_mem : ∀ {ds : List PyData} {d : PyData}, d ∈ ds → d.depth ≤ PyData.depthAll ds
  | [], d, h => by simp at h
  | x :: xs, d, h => by
    rw [PyData.depthAll]
    rcases List.mem_cons.mp h with e | e
    · subst e; exact Nat.le_max_left _ _
    · exact Nat.le_trans (depth_mem e) (Nat.le_max_right _ _)
theorem sort_facts {h : Hh} {xs : List D} (hn : ∀ d ∈ xs, encD h d ≠ .none) (hs : sortB h xs = true) : ZSortable (xs.map (encD h)) := by
  simp only [sortB, Bool.or_eq_true, List.all_eq_true, Bool.not_eq_true'] at hs
  rcases hs with hs | hs
  · left
    intro d hd
    obtain ⟨x, hx, rfl⟩ := List.mem_map.mp hd
    have := hs x hx
    unfold tupP at this
    split at this
    · rename_i ys q
      exact ⟨ys, q⟩
    · cases this
  · right
    intro d hd
    obtain ⟨x, hx, rfl⟩ := List.mem_map.mp hd
    refine ⟨hn x hx, fun ys z => ?_⟩
    have := hs x hx
    rw [z] at this
    cases this
theorem z_sorted (hu : X.A.units + 65 < cLine) : CallR X (.builtin "sorted") (rPN W X.K G .sorted) := by
  intro pins s σ H xs us Q I rs hh
  obtain ⟨ρ, h, ds, d, h', S, r1, e, k⟩ := hh
  unfold primN at e
  split at e
  · obtain ⟨y, yr, rfl, r2, r3⟩ := r1
    obtain rfl : yr = [] := r3
    obtain ⟨u, rfl, ru⟩ := vals1 rs
    simp only [prim1] at e
    split at e
    · rename_i zs q
      split at e
      · rename_i hc
        obtain ⟨hc1, hc2, hc3⟩ := hc
        simp only [newL, Option.some.injEq, Prod.mk.injEq] at e
        obtain ⟨rfl, rfl⟩ := e
        obtain ⟨a, ys, rfl, rl, sq⟩ := S.seq q r2
        cases ru
        obtain ⟨f1, f2, f3, f4⟩ := data_facts hc1
        have hits : ∃ its : List Value, Vals ys its ∧ ZSeq s.heap a its ∧ ys.length ≤ sizeLine := by
          rcases sq with sq | sq
          · obtain ⟨its, rv, hl, hz⟩ := I.list sq
            exact ⟨its, rv, .inl hl.isList, hz⟩
          · obtain ⟨its, rv, hl, hz⟩ := I.tuple sq
            exact ⟨its, rv, .inr hl, hz⟩
        obtain ⟨its, rv, hl, hz⟩ := hits
        have e1 := each_of rl rv
        have er : EachIs (fun v b => ∃ as, Reads s.heap v (encD h b) as) its zs := (each_mem e1).mono fun v b ⟨⟨x, q1, q2⟩, hm⟩ => Dp.reads I _ x v (enc_dp S (f1 b hm) q2) q1
        refine z_sorted_data (bs := zs) (enc := encD h) (R := StD W X.K ρ H) hl e1 er f2 (sort_facts f3 hc2) (line_ok hc3) (fun b hb => ?_) fun out ho eo => ?_
        · have := depth_mem (List.mem_map.mpr ⟨b, hb, rfl⟩ : encD h b ∈ zs.map (encD h))
          omega
        · obtain ⟨ws, q1, q2⟩ := of_each eo
          obtain ⟨ep, he'⟩ := PyProof.Rows.sortedAll_at s.heap its out.toArray
          have hlen : ws.length ≤ sizeLine := by
            rw [← q1.length, List.length_mergeSort]
            exact line_ok hc3
          have hp : H (s.heap.objs.size + 1) = none := I.hok.fresh (Nat.le_succ _)
          exact ⟨.ref _, upd H (s.heap.objs.size + 1) (.lst ws), I.laid (t' := s.toks) (fun _ _ => PyProof.Rows.sortedAll_old) (Nat.le_succ _) ⟨hlen, out, ep, q2, he'⟩, rfl, k.newL S q1 _ hp⟩
      · cases e
    · cases e
  · simp [prim2] at e
  · cases e
theorem z_min2 (hc : X.calm = true) (hu : X.A.units + 65 < cLine) : CallR X (.builtin "min") (rPN W X.K G .min2) := by
  intro pins s σ H xs us Q I rs hh
  obtain ⟨ρ, h, ds, d, h', S, r1, e, k⟩ := hh
  unfold primN at e
  split at e
  · simp [prim1] at e
  · obtain ⟨y, yr, rfl, r2, y2, yr2, rfl, r3, r4⟩ := r1
    obtain rfl : yr2 = [] := r4
    obtain ⟨u1, u2, rfl, ru1, ru2⟩ := vals2 rs
    simp only [prim2] at e
    split at e
    · rename_i a b hb
      cases e
      obtain ⟨f1, f2, f3, f4⟩ := data_facts hb
      obtain ⟨as, ra⟩ := Dp.reads I _ y u1 (enc_dp S (f1 a (by simp)) r2) ru1
      obtain ⟨bs, rb⟩ := Dp.reads I _ y2 u2 (enc_dp S (f1 b (by simp)) r3) ru2
      refine z_min_two (I.ok.hd hc) ra rb ⟨f2, fun p hp => ?_⟩ (by simp only [List.map_cons, List.map_nil] at f4; omega) fun h' tk kk => ?_
      · obtain ⟨x, hx, rfl⟩ := List.mem_map.mp (show p ∈ [a, b].map (encD h) from hp)
        exact f3 x hx
      · by_cases hlt : PySem.W.dataLt (encD h b) (encD h a) = true
        · simp only [hlt, if_true] at k ⊢
          exact ⟨y2, H, I.kept kk, ru2, k.here S r3⟩
        · simp only [hlt, Bool.false_eq_true, if_false] at k ⊢
          exact ⟨y, H, I.kept kk, ru1, k.here S r2⟩
    · cases e
  · cases e
theorem dp_alls {K : PySem.W.Frag} {ρ : List Addr} {h : Hh} {H : Hp} (S : Sim W K ρ h H) : ∀ {ls : List D} {ys : List V}, (∀ d ∈ ls, (toP h d).isSome = true) → RelIs W K ρ H ls ys → DpAll K H ys (ls.map (encD h))
  | [], ys, _, r => by cases r; exact .nil
  | l :: ls, ys, f, r => by
    obtain ⟨z, zr, rfl, w1, w2⟩ := r
    exact .cons (enc_dp S (f l List.mem_cons_self) w1) (dp_alls S (fun d hd => f d (List.mem_cons_of_mem _ hd)) w2)
def rPK (W : Pl) (K : PySem.W.Frag) (G : GEnv) (p : Prim) : List V → List V → Hp → VK → Prop := fun xs zs H Q => ∃ x z, xs = [x] ∧ zs = [z] ∧ rPN W K G p [x, z] H Q
theorem z_minD (hc : X.calm = true) (hu : X.A.units + 65 < cLine) : CallRK X (.builtin "min") ["default"] (rPK W X.K G .minD) := by
  intro pins s σ H xs zs us ws Q I rs rz hh
  obtain ⟨y, y2, rfl, rfl, ρ, h, ds, d, h', S, r1, e, k⟩ := hh
  obtain ⟨u1, rfl, ru1⟩ := vals1 rs
  obtain ⟨u2, rfl, ru2⟩ := vals1 rz
  show wpAny (model X.prog X.w) X.A (call (.builtin "min") [u1] [(Str.ofString "default", u2)]) (EP X pins σ Q) X.xe s
  unfold primN at e
  split at e
  · simp [prim1] at e
  · rename_i a b
    obtain ⟨_, _, e1, r2, _, _, e2, r3, r4⟩ := r1
    cases e1
    cases e2
    simp only [prim2] at e
    split at e
    · rename_i n
      obtain ⟨p, rfl, ea⟩ := r2
      cases ru1
      split at e
      · rename_i ls qh
        split at e
        · rename_i hb
          obtain ⟨f1, f2, f3, f4⟩ := data_facts hb
          obtain ⟨ys, q1, rl⟩ := S.lst qh ea
          obtain ⟨its, rv, hl, hz⟩ := I.list (SqL.of q1)
          obtain ⟨as, hr⟩ : ∃ as, ReadsAll s.heap its (ls.map (encD h)) as := Dp.readsAll I _ ys its (dp_alls S f1 rl) rv
          refine z_min_default (d := u2) (I.ok.hd hc) hl.isList (by simpa using hr) ⟨f2, fun p hp => ?_⟩ (by omega) (fun hn h2 tk kk => ?_) fun v h2 tk hv kk => ?_
          · obtain ⟨x, hx, rfl⟩ := List.mem_map.mp hp
            exact f3 x hx
          · have hls : ls = [] := List.map_eq_nil_iff.mp hn
            subst hls
            simp only [Option.some.injEq, Prod.mk.injEq] at e
            obtain ⟨rfl, rfl⟩ := e
            exact ⟨y2, H, I.kept kk, ru2, k.here S r3⟩
          · split at e
            · exfalso
              have hi : its = [] := by
                cases rl
                cases rv
                rfl
              subst hi
              simp at hv
            · split at e
              · rename_i x hx
                cases e
                obtain ⟨z, hz1, hz2⟩ := rl.get hx
                have hv' : its[PySem.W.zLeast (ls.map (encD h))]? = some v := by simpa using hv
                obtain ⟨v', hv2, hv3⟩ := Vals.get rv hz1
                rw [hv'] at hv2
                cases hv2
                exact ⟨z, H, I.kept kk, hv3, k.here S hz2⟩
              · cases e
        · cases e
      · cases e
    · cases e
  · cases e
theorem toCome_of {ρ : List Addr} {h : Hh} {H : Hp} {pins : List (Addr × Obj)} {s : Shared} {σ : L2.St} (I : Inv X pins σ H s) (S : Sim W X.K ρ h H) {I0 S0 : Addr} (hI : I0 = s.heap.objs.size) (hS : S0 = s.heap.objs.size + 1) : ∀ {ls : List D} {xss : List (List D)} {ys : List V} {us : List Value}, listsOf h ls = some xss → RelIs W X.K ρ H ls ys → Vals ys us →
    ∃ r : List (List Value), ToCome s.heap I0 S0 us r ∧ (∃ yss : List (List V), RelIs W X.K ρ H xss.flatten yss.flatten ∧ Vals yss.flatten r.flatten) ∧ (r = [] ↔ xss = []) ∧ r.flatten.length = xss.flatten.length
  | [], xss, ys, us, e, r, v => by
    cases e
    cases r
    cases v
    exact ⟨[], trivial, ⟨[], rfl, .nil⟩, by simp, rfl⟩
  | l :: ls, xss, ys, us, e, r, v => by
    obtain ⟨y, yr, rfl, r1, r2⟩ := r
    cases l with
    | ref n =>
      simp only [listsOf] at e
      split at e
      · rename_i xs xss' e1 e2
        cases e
        obtain ⟨a, rfl, ea⟩ := r1
        cases v with
        | cons v1 v2 =>
          cases v1
          obtain ⟨r, t1, ⟨yss, t2, t3⟩, t4, t5⟩ := toCome_of I S hI hS e2 r2 v2
          obtain ⟨zs, q1, rl⟩ := S.lst e1 ea
          obtain ⟨z, its, m, rv, hl, hg⟩ := I.lstM q1
          have hlt := Heap.lt_size hg
          refine ⟨its :: r, ⟨⟨a, rfl, ⟨m, hg⟩, ?_, ?_⟩, t1⟩, ⟨zs :: yss, ?_, ?_⟩, by simp, ?_⟩
          · rw [hI]; exact Nat.ne_of_lt hlt
          · rw [hS]; exact Nat.ne_of_lt (Nat.lt_succ_of_lt hlt)
          · rw [List.flatten_cons, List.flatten_cons]
            exact rl.append t2
          · rw [List.flatten_cons, List.flatten_cons]
            exact rv.append t3
          · simp only [List.flatten_cons, List.length_append]
            rw [t5, ← hl, rl.length]
      · cases e
    | _ => simp [listsOf] at e
theorem z_sumL (hc : X.calm = true) : CallR X (.builtin "sum") (rPN W X.K G .sumL) := by
  intro pins s σ H xs us Q I rs hh
  obtain ⟨ρ, h, ds, d, h', S, r1, e, k⟩ := hh
  unfold primN at e
  split at e
  · simp [prim1] at e
  · obtain ⟨y, yr, rfl, r2, y2, yr2, rfl, r3, r4⟩ := r1
    obtain rfl : yr2 = [] := r4
    obtain ⟨u1, u2, rfl, ru1, ru2⟩ := vals2 rs
    simp only [prim2] at e
    split at e
    · rename_i n m
      obtain ⟨a, rfl, ea⟩ := r2
      obtain ⟨b, rfl, eb⟩ := r3
      cases ru1
      cases ru2
      split at e
      · rename_i ls q1 q2
        split at e
        · rename_i xss q3
          split at e
          · rename_i hz
            obtain ⟨ys, g1, rl⟩ := S.lst q1 ea
            obtain ⟨zs, g2, rl2⟩ := S.lst q2 eb
            cases rl2
            obtain ⟨its, rv, hl, hzz⟩ := I.list (SqL.of g1)
            obtain ⟨z, its2, m2, rv2, hl2, hg2⟩ := I.lstM g2
            cases rv2
            obtain ⟨r, t1, ⟨yss, t2, t3⟩, t4, t5⟩ := toCome_of I S rfl rfl q3 rl rv
            refine z_sum_lists (vs := its.toArray) (r := r) (I.ok.hd hc) hl.isList ⟨m2, hg2⟩ (fun I0 S0 h1 h2 => ?_) (by rw [t5]; exact line_ok hz) fun h2 tk p kk lo n1 n2 => ?_
            · subst h1 h2
              exact t1
            · split at e
              · cases e
                rw [n1 (t4.mpr rfl)]
                exact ⟨.ref b, H, I.kept kk, rfl, k.here S ⟨b, rfl, eb⟩⟩
              · rename_i hne
                simp only [newL, Option.some.injEq, Prod.mk.injEq] at e
                obtain ⟨rfl, rfl⟩ := e
                have hr : r ≠ [] := fun z => hne (t4.mp z)
                have hsz := n2 hr
                obtain ⟨c, hc'⟩ := lo
                have hp : H p = none := I.hok.fresh hsz
                refine ⟨.ref p, upd H p (.lst yss.flatten), I.laid (t' := tk) kk hsz ⟨?_, r.flatten, c, t3, hc'⟩, rfl, k.newL S t2 _ hp⟩
                rw [← t2.length]
                exact line_ok hz
          · cases e
        · cases e
      · cases e
    · cases e
  · cases e
/-- t[::-1] of a tuple -/
def tRevT (K : PySem.W.Frag) (te : TE) : TE := fun σ H Q => te σ H fun x H1 => ∃ a xs, x = .ref a ∧ SqT K H1 a xs ∧ ∀ p, H1 p = none → Q (.ref p) (upd H1 p (.tup xs.reverse))
theorem pe_revT {e : Expr} {te : TE} {k : Nat} {p1 p2 p3 pos : Pos} (he : PE X e te) : PE X (.Subscript e (.Slice none none (some (.UnaryOp .USub (.Constant (.int 1) k p1) p2)) p3) pos) (tRevT X.K te) := by
  refine ⟨fun pins s σ H Q I h => ?_⟩
  refine Subscript_ (thn (he.run pins s σ H _ I h) fun v s1 ⟨x, H1, I1, r1, q1⟩ => ?_)
  obtain ⟨a, xs, ex, hx, q⟩ := q1
  subst ex
  cases r1
  have hst : PO X (some (.UnaryOp .USub (.Constant (.int 1) k p1) p2)) (tPart (tUn (rU fun i => .int (-i)) (tC (.int 1)))) := po_some (pe_un un_neg pe_int)
  refine wpAny_Slice (thn (po_none.run pins s1 σ H1 (fun o H2 => o = none ∧ H2 = H1) I1 ⟨rfl, rfl⟩) fun vl s2 ⟨l, H2, I2, pl, el, e2⟩ => ?_)
  subst el e2
  refine thn (po_none.run pins s2 σ H2 (fun o H3 => o = none ∧ H3 = H2) I2 ⟨rfl, rfl⟩) fun vu s3 ⟨u, H3, I3, pu, eu, e3⟩ => ?_
  subst eu e3
  refine thn (hst.run pins s3 σ H3 (fun o H4 => o = some (-1) ∧ H4 = H3) I3 ⟨1, rfl, -1, rfl, rfl, rfl⟩) fun vs s4 ⟨o, H4, I4, ps, eo, e4⟩ => ?_
  subst eo e4
  cases pl
  cases pu
  have I5 : Inv X pins σ H4 { s4 with heap := s4.heap.push { cls := .type "slice", data := .fields #[.none, .none, vs] } } := I4.kept (t' := s4.toks) fun b ob q => Heap.get?_push_of_some _ q
  obtain ⟨its, r, ht, hz⟩ := I5.tuple hx
  have hlen := r.length
  show wpAny (model X.prog X.w) X.A (subscriptTail e (.Slice none none (some (.UnaryOp .USub (.Constant (.int 1) k p1) p2)) p3) (.ref a) (.ref s4.heap.objs.size)) (EP X pins σ Q) X.xe { s4 with heap := s4.heap.push { cls := .type "slice", data := .fields #[.none, .none, vs] } }
  refine tail_any (ops := [.ref a, .ref s4.heap.objs.size]) ht.typeIs (PyProof.Rows.slot_tuple_getitem.lookup) ?_ (by with_unfolding_all rfl)
  refine z_getItem_tuple_rev ht (Heap.IsSliceOf.new _ .none .none vs) ps ?_ (by rw [List.size_toArray]; omega)
  refine ⟨.ref _, _, I5.laid (t' := s4.toks) (o := .tup xs.reverse) (fun b ob q => Heap.get?_push_of_some _ q) (Nat.le_refl _) ?_, rfl, q _ (I5.hok.fresh (Nat.le_refl _))⟩
  exact ⟨by rw [List.length_reverse]; exact hz, _, r.reverse, IsTup.new _ _⟩
end
end Z
end

-- ZD
section
set_option Elab.async false
set_option linter.all false
set_option maxRecDepth 100000
set_option maxHeartbeats 1000000
/-! The check of an expression against its text, and what it gives. -/
namespace Z
open PySem L2 PySem.Spec PyProof.Rows

/-- names by their numbers -/
structure CkE where
  fnm : Nat → Str
  nf : Nat
  cnm : Nat → Str
  nc : Nat
  gnm : Nat → Str
  ng : Nat
  nm : Nat → Str
  free : List Str
  gcd : Bool
  isc : List Nat

def visB (sc : Scope) (x : Str) : Bool := match sc.names.lookup x with
  | some .local => true
  | some .cell => true
  | some .free => true
  | _ => false
def locB (sc : Scope) (x : Str) : Bool := match sc.names.lookup x with
  | some .local => true
  | some .cell => true
  | _ => false
def freB (sc : Scope) (x : Str) : Bool := match sc.names.lookup x with
  | some .cell => true
  | some .free => true
  | _ => false
def globB (sc : Scope) (x : Str) : Bool := match sc.names.lookup x with
  | some .globalImplicit => true
  | _ => false
def dbgB (x : Str) : Bool := !(x == ("__debug__" : Str)) && !(x == ("__classdict__" : Str)) && !decide (x = "__name__")
def binP : Operator → Option Prim
  | .Add => some .add
  | .Sub => some .sub
  | .Mult => some .mul
  | .FloorDiv => some .fdiv
  | .Mod => some .mod
  | .Pow => some .pow
  | _ => none
def cmpP : CmpOp → Option Prim
  | .Eq => some .eq
  | .NotEq => some .ne
  | .Lt => some .lt
  | .LtE => some .le
  | .Gt => some .gt
  | .GtE => some .ge
  | .In => some .inn
  | .NotIn => some .nin
  | _ => none
/-- a built-in function or class by its name -/
inductive Bk where
  | fn (x : Str) (id : String) | ty (x : Str) (id : String) | own (x : Str) (id : String)
def bkOf : Prim → Option Bk
  | .abs => some (.fn "abs" "abs")
  | .toInt => some (.ty "int" "int")
  | .len => some (.fn "len" "len")
  | .list => some (.ty "list" "list")
  | .tuple => some (.ty "tuple" "tuple")
  | .sum => some (.fn "sum" "sum")
  | .all => some (.fn "all" "all")
  | .any => some (.fn "any" "any")
  | .max2 => some (.fn "max" "max")
  | .gcd => some (.own "gcd" "math.gcd")
  | .sorted => some (.fn "sorted" "sorted")
  | .min2 => some (.fn "min" "min")
  | .sumL => some (.fn "sum" "sum")
  | _ => none
def mtOf : Prim → Option Str
  | .append => some "append"
  | .pop => some "pop"
  | .popAt => some "pop"
  | _ => none
def notStar : Expr → Bool
  | .Starred _ _ => false
  | _ => true
def plainIxB : Expr → Bool
  | .Slice _ _ _ _ => false
  | _ => true
def noSuper : Expr → Bool
  | .Call (.Name _ _) [] [] _ => false
  | _ => true
def noSetB : Expr → Bool
  | .Set _ _ _ => false
  | _ => true
def notComp : Expr → Bool
  | .ListComp _ _ _ _ => false
  | .SetComp _ _ _ _ => false
  | .DictComp _ _ _ _ _ => false
  | _ => true
def isTup : Expr → Bool
  | .Tuple _ _ _ => true
  | _ => false
/-- a test that is a plain value -/
def plainT : Expr → Bool
  | .UnaryOp .Not _ _ => false
  | .BoolOp _ _ _ => false
  | .IfExp _ _ _ _ => false
  | .Compare _ _ _ _ => false
  | _ => true
/-- a written key -/
def keyE : Expr → Option Key
  | .Constant (.str x) _ _ => some (Sum.inr x : Key)
  | .Constant (.int i) _ _ => some (Sum.inl i : Key)
  | _ => none
mutual
def tgIn (own : List Nat) : Tg → Bool
  | .nm i => decide (i ∈ own)
  | .tp ts => tgsIn own ts
  | _ => false
def tgsIn (own : List Nat) : Tgs → Bool
  | .nil => true
  | .cons t ts => tgIn own t && tgsIn own ts
end
def ownN (N : List Str) (own : List Nat) : List (Str × Nat) := own.map fun i => (N.getD i "", i)

section
variable (E : CkE) (N : List Str)
mutual
def ckE (sc : Scope) : Ex → Expr → Bool
  | .var i, e => match e with
    | .Name x _ => visB sc x && dbgB x && decide (N[i]? = some x)
    | _ => false
  | .con d, e => match e with
    | .Constant c _ _ => (match d, c with
      | .int i, .int j => decide (i = j)
      | .bl i, .bool j => decide (i = j)
      | .str i, .str j => decide (i = j)
      | .non, .none => true
      | _, _ => false)
    | _ => false
  | .glo g, e => match e with
    | .Name x _ => decide (g < E.ng) && decide (x = E.gnm g) && globB sc x && dbgB x
    | _ => false
  | .tup es, e => match e with
    | .Tuple l _ _ => ckEs sc es l
    | _ => false
  | .lst es, e => match e with
    | .List l _ => ckEs sc es l
    | _ => false
  | .un p a, e => match p, e with
    | .neg, .UnaryOp .USub b _ => ckE sc a b
    | .isN, .Compare b [.Is] [.Constant .none _ _] _ => ckE sc a b
    | .notN, .Compare b [.IsNot] [.Constant .none _ _] _ => ckE sc a b
    | .rev, .Subscript b (.Slice none none (some (.UnaryOp .USub (.Constant (.int 1) _ _) _)) _) _ => ckE sc a b
    | .isInt, .Call (.Name f _) [b, .Name t _] [] _ => decide (f = "isinstance") && decide (("isinstance" : Str) ∈ E.free) && globB sc f && decide (t = "int") && decide (("int" : Str) ∈ E.free) && globB sc t && notStar b && ckE sc a b
    | .isBool, .Call (.Name f _) [b, .Name t _] [] _ => decide (f = "isinstance") && decide (("isinstance" : Str) ∈ E.free) && globB sc f && decide (t = "bool") && decide (("bool" : Str) ∈ E.free) && globB sc t && notStar b && ckE sc a b
    | .isSeq, .Call (.Name f _) [b, .Tuple [.Name t _, .Name u _] _ _] [] _ => decide (f = "isinstance") && decide (("isinstance" : Str) ∈ E.free) && globB sc f && decide (t = "list") && decide (("list" : Str) ∈ E.free) && globB sc t && decide (u = "tuple") && decide (("tuple" : Str) ∈ E.free) && globB sc u && notStar b && ckE sc a b
    | .isCls c, .Call (.Name f _) [b, .Name t _] [] _ => decide (f = "isinstance") && decide (("isinstance" : Str) ∈ E.free) && globB sc f && decide (c ∈ E.isc) && decide (t = E.cnm c) && globB sc t && dbgB t && notStar b && ckE sc a b
    | _, _ => false
  | .bin p a b, e => match e with
    | .BinOp a' op b' _ => decide (binP op = some p) && ckE sc a a' && ckE sc b b'
    | .Compare a' [op] [b'] _ => decide (cmpP op = some p) && !behindInMarks op b' && ckE sc a a' && ckE sc b b'
    | .Subscript a' b' _ => decide (p = .ix) && plainIxB b' && ckE sc a a' && ckE sc b b'
    | _ => false
  | .sl a lo hi, e => match e with
    | .Subscript a' (.Slice l u none _) _ => ckE sc a a' && (match l with
      | none => (match lo with
        | .con .non => true
        | _ => false)
      | some l' => ckE sc lo l' && (match lo with
        | .con .non => false
        | _ => true)) && (match u with
      | none => (match hi with
        | .con .non => true
        | _ => false)
      | some u' => ckE sc hi u' && (match hi with
        | .con .non => false
        | _ => true))
    | _ => false
  | .app p es, e => match e with
    | .Call (.Name x _) (e :: l) [] _ => notStar e && l.all notStar && globB sc x && dbgB x && ckEs sc es (e :: l) && (match bkOf p with
      | some (.fn y id) => decide (x = y) && decide (x ∈ E.free)
      | some (.ty y id) => decide (x = y) && decide (x ∈ E.free)
      | some (.own y id) => decide (x = y) && E.gcd
      | none => false)
    | .Call (.Name x _) [a'] [⟨some kw, v, _⟩] _ => decide (p = .minD) && decide (x = "min") && decide (("min" : Str) ∈ E.free) && globB sc x && decide (kw = "default") && notStar a' && notStar v && ckEs sc es [a', v]
    | _ => false
  | .met p o es, e => match e with
    | .Call (.Attribute o' m apos) l [] cpos => noSuper o' && l.all notStar && (apos.endLine == cpos.line) && decide (l.length < 20) && decide (mtOf p = some m) && ckE sc o o' && ckEs sc es l
    | _ => false
  | .and a b, e => match e with
    | .BoolOp .And (x :: y :: r) pos => ckE sc a x && (match r with
      | [] => ckE sc b y
      | _ => ckE sc b (.BoolOp .And (y :: r) pos))
    | _ => false
  | .or a b, e => match e with
    | .BoolOp .Or (x :: y :: r) pos => ckE sc a x && (match r with
      | [] => ckE sc b y
      | _ => ckE sc b (.BoolOp .Or (y :: r) pos))
    | _ => false
  | .not a, e => match e with
    | .UnaryOp .Not x _ => ckE sc a x
    | _ => false
  | .chn p q a b c, e => match e with
    | .Compare x [o1, o2] [y, z] _ => decide (cmpP o1 = some p) && decide (cmpP o2 = some q) && !behindInMarks o1 y && !behindInMarks o2 z && ckE sc a x && ckE sc b y && ckE sc c z
    | _ => false
  | .ite t a b, e => match e with
    | .IfExp t' a' b' _ => ckT sc t t' && ckE sc a a' && ckE sc b b'
    | _ => false
  | .call f es, e => match e with
    | .Call (.Name x _) l [] _ => decide (f < E.nf) && decide (x = E.fnm f) && globB sc x && dbgB x && l.all notStar && ckEs sc es l
    | _ => false
  | .new c es, e => match e with
    | .Call (.Name x _) l [] _ => decide (c < E.nc) && decide (x = E.cnm c) && globB sc x && dbgB x && l.all notStar && ckEs sc es l
    | _ => false
  | .umt m o es, e => match e with
    | .Call (.Attribute o' x apos) l [] cpos => decide (x = E.nm m) && noSuper o' && l.all notStar && decide (l.length < 20) && (apos.endLine == cpos.line) && ckE sc o o' && ckEs sc es l
    | _ => false
  | .fld f o, e => match e with
    | .Attribute o' x _ => decide (x = E.nm f) && noSuper o' && ckE sc o o'
    | _ => false
  | .lc it t ifs a own, e => match e with
    | .ListComp elt [⟨tg, iter, l, 0⟩] scope _ => blkC N sc scope (ownN N own) && noSetB iter && ckI sc it tg iter && ckG scope t tg && tgIn own t && ckE scope a elt && (match l with
      | [] => (match ifs with
        | .yes => true
        | _ => false)
      | [c] => ckT scope ifs c
      | _ => false)
    | _ => false
  | .lc2 it t it2 t2 a own own2, e => match e with
    | .ListComp elt [⟨tg, iter, [], 0⟩, ⟨tg1, iter1, [], 0⟩] scope _ => blkC N sc scope (ownN N own) && decide (∀ i ∈ own2, i ∈ own) && noSetB iter && noSetB iter1 && ckI sc it tg iter && ckG scope t tg && tgIn own t && ckI scope it2 tg1 iter1 && ckG scope t2 tg1 && tgIn own2 t2 && ckE scope a elt
    | _ => false
  | .dic ks es, e => match e with
    | .Dict keys vals _ => decide (keys.map (fun x => x.map keyE) = ks.map fun k => some (some k)) && decide (keys.length = vals.length) && decide (keys ≠ []) && decide (keys.length ≤ 15) && vals.all notStar && ckEs sc es vals
    | _ => false
  | .dnewT, e => match e with
    | .Dict [] [] _ => true
    | _ => false
def ckEs (sc : Scope) : Exs → List Expr → Bool
  | .nil, l => match l with
    | [] => true
    | _ => false
  | .cons e es, l => match l with
    | x :: xs => notStar x && ckE sc e x && ckEs sc es xs
    | _ => false
  | .star e es, l => match l with
    | .Starred x _ :: xs => ckE sc e x && ckEs sc es xs
    | _ => false
def ckT (sc : Scope) : Ts → Expr → Bool
  | .yes, _ => false
  | .val e, x => (plainT x || (match x with
    | .Compare _ [_] [_] _ => (match e with
      | .bin _ _ _ => true
      | .un .isN _ => true
      | .un .notN _ => true
      | _ => false)
    | .Compare _ [_, _] [_, _] _ => (match e with
      | .chn _ _ _ _ _ => true
      | _ => false)
    | _ => false)) && ckE sc e x
  | .and a b, e => match e with
    | .BoolOp .And (x :: y :: r) pos => ckT sc a x && (match r with
      | [] => ckT sc b y
      | _ => ckT sc b (.BoolOp .And (y :: r) pos))
    | _ => false
  | .or a b, e => match e with
    | .BoolOp .Or (x :: y :: r) pos => ckT sc a x && (match r with
      | [] => ckT sc b y
      | _ => ckT sc b (.BoolOp .Or (y :: r) pos))
    | _ => false
  | .not a, e => match e with
    | .UnaryOp .Not x _ => ckT sc a x
    | _ => false
def ckI (sc : Scope) : It → Expr → Expr → Bool
  | .seq e, _, x => ckE sc e x
  | .rng1 a, _, e => match e with
    | .Call (.Name x _) [a'] [] _ => decide (x = "range") && globB sc x && decide (("range" : Str) ∈ E.free) && notStar a' && ckE sc a a'
    | _ => false
  | .rng2 a b, _, e => match e with
    | .Call (.Name x _) [a', b'] [] _ => decide (x = "range") && globB sc x && decide (("range" : Str) ∈ E.free) && notStar a' && notStar b' && ckE sc a a' && ckE sc b b'
    | _ => false
  | .enum _, _, _ => false
  | .zip _ _, _, _ => false
def ckG (sc : Scope) : Tg → Expr → Bool
  | .nm i, e => match e with
    | .Name x _ => locB sc x && decide (N[i]? = some x)
    | _ => false
  | .tp ts, e => match e with
    | .Tuple l _ _ => l.all notStar && ckGs sc ts l
    | _ => false
  | .sub o i, e => match e with
    | .Subscript o' i' _ => plainIxB i' && ckE sc o o' && ckE sc i i'
    | _ => false
  | .fld _ _, _ => false
def ckGs (sc : Scope) : Tgs → List Expr → Bool
  | .nil, l => match l with
    | [] => true
    | _ => false
  | .cons t ts, l => match l with
    | x :: xs => notStar x && ckG sc t x && ckGs sc ts xs
    | _ => false
end
end

/-! ### statements against their text -/
/-- a name that is stored from a swapped pair -/
def nameOk (sc : Scope) (line : Nat) : Expr → Bool
  | .Name id pos => sc.names.lookup id == some .local && pos.line == line
  | _ => false
def headLine (ts : List Expr) : Nat := (ts.head?.map (·.pos.line)).getD 0
/-- a, b = x, y that makes a tuple and takes it apart -/
def viaTup (sc : Scope) (ts : List Expr) (v : Expr) : Bool := match v with
  | .Tuple vs _ _ => ts.any (fun t => !nameOk sc (headLine ts) t) || vs.all (foldedForSure 8) || !(ts.length == 2 || ts.length == 3)
  | _ => true
def lcSwap (sc scope : Scope) (x : Str) (l1 l2 : Nat) : Bool := sc.names.lookup x == some .local && l1 == l2 && !(scope.names.any fun (n, k) => n == x && (k == .local || k == .cell))
section
variable (E : CkE) (N : List Str)
/-- target := e -/
def ckA (sc : Scope) (t : Tg) (e : Ex) (x v : Expr) : Bool := match t with
  | .nm i => (match x with
    | .Name y py => locB sc y && decide (N[i]? = some y) && ckE E N sc e v && (notComp v || (match v with
      | .ListComp _ [⟨_, _, _, 0⟩] scope lpos => !lcSwap sc scope y py.line lpos.line || (match e with
        | .lc _ _ _ _ _ => true
        | _ => false)
      | .ListComp _ [⟨_, _, [], 0⟩, ⟨_, _, [], 0⟩] scope lpos => !lcSwap sc scope y py.line lpos.line || (match e with
        | .lc2 .. => true
        | _ => false)
      | .ListComp _ _ scope lpos => !lcSwap sc scope y py.line lpos.line
      | _ => false))
    | _ => false)
  | .fld o f => (match x with
    | .Attribute o' y _ => decide (y = E.nm f) && ckE E N sc o o' && ckE E N sc e v
    | _ => false)
  | .sub o i => (match x with
    | .Subscript _ _ _ => ckG E N sc (.sub o i) x && ckE E N sc e v
    | _ => false)
  | .tp ts => (match x with
    | .Tuple l _ _ => ckG E N sc (.tp ts) x && ckE E N sc e v && (viaTup sc l v || (match v, e, l, ts with
      | .Tuple [v1, v2] _ _, .tup (.cons _ (.cons _ .nil)), [.Name x1 p1, .Name x2 p2], .cons (.nm _) (.cons (.nm _) .nil) => !(foldedForSure 8 v1 && foldedForSure 8 v2) && !(constantsAlone 8 v1 && constantsAlone 8 v2) && notStar v1 && notStar v2 && decide (x1 ≠ x2) && nameOk sc p1.line (.Name x1 p1) && nameOk sc p1.line (.Name x2 p2)
      | .Tuple [v1, v2, v3] _ _, .tup (.cons _ (.cons _ (.cons _ .nil))), [.Name x1 p1, .Name x2 p2, .Name x3 p3], .cons (.nm _) (.cons (.nm _) (.cons (.nm _) .nil)) =>
        !(foldedForSure 8 v1 && foldedForSure 8 v2 && foldedForSure 8 v3) && !(constantsAlone 8 v1 && constantsAlone 8 v2 && constantsAlone 8 v3) && notStar v1 && notStar v2 && notStar v3 && decide (x1 ≠ x2) && decide (x1 ≠ x3) && decide (x2 ≠ x3) && nameOk sc p1.line (.Name x1 p1) && nameOk sc p1.line (.Name x2 p2) && nameOk sc p1.line (.Name x3 p3)
      | _, _, _, _ => false))
    | _ => false)
mutual
def ckS (sc : Scope) : Stm → Stmt → Bool
  | .never, _ => true
  | .pass, x => match x with
    | .Pass _ => true
    | .Expr (.Constant (.str _) _ _) _ => true
    | _ => false
  | .brk, x => match x with
    | .Break _ => true
    | _ => false
  | .cnt, x => match x with
    | .Continue _ => true
    | _ => false
  | .retN, x => match x with
    | .Return none _ => true
    | _ => false
  | .ret e, x => match x with
    | .Return (some v) _ => ckE E N sc e v
    | _ => false
  | .exp e, x => match x with
    | .Expr v _ => notComp v && ckE E N sc e v
    | _ => false
  | .asg t e, x => match x with
    | .Assign [x] v _ => ckA E N sc t e x v
    | _ => false
  | .aug i p e, x => match x with
    | .AugAssign (.Name x _) op v _ => locB sc x && decide (N[i]? = some x) && (match op with
      | .Add => decide (p = .add)
      | .Sub => decide (p = .sub)
      | _ => false) && ckE E N sc e v
    | _ => false
  | .ite t a b, x => match x with
    | .If c a' b' _ => ckT E N sc t c && ckSs sc a a' && ckSs sc b b'
    | _ => false
  | .whl t b, x => match x with
    | .While c b' [] _ => ckT E N sc t c && ckSs sc b b'
    | _ => false
  | .fo it t b, x => match x with
    | .For tg iter b' [] _ => noSetB iter && ckI E N sc it tg iter && ckG E N sc t tg && ckSs sc b b'
    | _ => false
def ckSs (sc : Scope) : Stms → List Stmt → Bool
  | .nil, l => match l with
    | [] => true
    | _ => false
  | .cons s ss, l => match l with
    | x :: xs => ckS sc s x && ckSs sc ss xs
    | _ => false
end
end

/-! ### what holds of the text behind the top -/
/-- a promise by the machine: places, data, what it gives -/
def spI (W : Pl) (K : PySem.W.Frag) (n : Nat) (fn : List D → Hh → Option (D × Hh)) : Sp := fun vs H Q _ => ∃ ρ ds h d h', Sim W K ρ h H ∧ RelIs W K ρ H ds vs ∧ fn ds h = some (d, h') ∧ ds.length = n ∧ RetD W K ρ H d h' Q
/-- a class that isinstance asks for -/
structure IsC (K : PySem.W.Frag) (C : Addr) : Prop where
  cls : Cls K C
  ha : PySem.W.findIn K (.ref C) "__class__" = some (some (.builtin "object.__class__"))
  hn : PySem.W.specialIn K (.builtin "object.__class__") "__get__" = some (some (.builtin "getset_descriptor.__get__"))
  htk : PySem.W.takesIn K (.builtin "object.__class__") = some true
  hm : PySem.W.mroIn K C (.type "object") = some true
  self : PySem.W.kitOne K (.ref C) (.ref C) = some true
  no : (["NoneType", "bool", "int", "str", "tuple", "list", "dict"] : List String).all (fun t => PySem.W.kitOne K (.type t) (.ref C) == some false) = true
structure Fct (P : Program) (w : World) (K : PySem.W.Frag) (mg : Str → Option Value) (base : Heap) (W : Pl) (G : GEnv) (E : CkE) (cs : CS) (k : Nat) : Prop where
  fn : ∀ f, f < E.nf → ∃ fa fd ps, FnOk P w K mg base CX0 (k + 1) fa fd ps (spI W K ps.length (cs.fn f)) ∧ mg (E.fnm f) = some (.ref fa) ∧ PySem.W.keepIn K (.ref fa) = true ∧ Binds K fd ps [] ∧ ∀ ds h r, cs.fn f ds h = some r → ds.length = ps.length
  mkr : ∀ c, c < E.nc → ∃ fI fd ps, mg (E.cnm c) = some (.ref (W.cl c)) ∧ Mk K (W.cl c) fI ∧ Binds K fd ps [] ∧ FnOk P w K mg base CX0 k fI fd ps (spI W K ps.length (cs.mi (G.ini c))) ∧ ∀ ds h r, cs.mi (G.ini c) ds h = some r → ds.length = ps.length
  mth : ∀ c m f, G.mth c m = some f → ∃ fa fd ps, Cls K (W.cl c) ∧ Meth K (W.cl c) (W.nm m) fa ∧ Binds K fd ps [] ∧ FnOk P w K mg base CX0 (k + 1) fa fd ps (spI W K ps.length (cs.fn f)) ∧ ∀ ds h r, cs.fn f ds h = some r → ds.length = ps.length
  fld : ∀ c f, G.fld c f = true → Cls K (W.cl c) ∧ NoAttr K (W.cl c) (W.nm f)
  glo : ∀ g, g < E.ng → ∃ v u, mg (E.gnm g) = some u ∧ RelV v u ∧ ∀ ρ H, RelI W K ρ H (G.glo g) v
  free : ∀ x, x ∈ E.free → mg x = none
  gcd : E.gcd = true → mg "gcd" = some (.builtin "math.gcd")
  inj : ∀ i j, W.nm i = W.nm j → i = j
  nm : E.nm = W.nm
  wd : WdOk W K P w G
  isc : ∀ c, c ∈ E.isc → mg (E.cnm c) = some (.ref (W.cl c)) ∧ IsC K (W.cl c)
structure Cxt (P : Program) (w : World) (K : PySem.W.Frag) (mg : Str → Option Value) (base : Heap) (k : Nat) (N : List Str) (X : Cx) (sc : Scope) : Prop where
  prog : X.prog = P
  wo : X.w = w
  kk : X.K = K
  mm : X.mg = mg
  ba : X.base = base
  nn : X.N = N
  nd : N.Nodup
  calm : X.calm = true
  room : Room (k + 1) X.A
  kind : X.env.scope.kind = .function
  vis : ∀ x, visB sc x = true → Vis X.env.scope x
  loc : ∀ x, locB sc x = true → Loc X.env.scope x ∧ (X.fn x = true ∨ X.env.scope.names.lookup x = some .local)
  fre : ∀ x, freB sc x = true → X.env.scope.names.lookup x = some .cell ∨ X.env.scope.names.lookup x = some .free
  glob : ∀ x, globB sc x = true → Gl X x

section
variable (W : Pl) (K : PySem.W.Frag) (G : GEnv) (cs : CS)
def tI (e : Ex) : TE := fun σ H Q => ∃ ρ s h d h', RelS W K ρ H s σ ∧ Sim W K ρ h H ∧ ev G cs e s h = some (d, h') ∧ RetD W K ρ H d h' Q
def tAs (es : Exs) : TA := fun σ H Q => ∃ ρ s h ds h', RelS W K ρ H s σ ∧ Sim W K ρ h H ∧ evs G cs es s h = some (ds, h') ∧ Nxt W K ρ H h' fun ρ' H' => ∀ vs, RelIs W K ρ' H' ds vs → Q vs H'
def tTT (t : Ts) : TT := fun σ H Q => ∃ ρ s h b h', RelS W K ρ H s σ ∧ Sim W K ρ h H ∧ evT G cs t s h = some (b, h') ∧ Nxt W K ρ H h' fun _ H' => Q b H'
/-- an iterator walks these items while the guard stands -/
structure WkD (ρ0 : List Addr) (H0 : Hp) (J : L2.It) (xs : List D) (g : Gd) : Prop where
  go : ∀ i H ρ h, i < xs.length → ρ0 <+: ρ → Keep K H0 H → Sim W K ρ h H → gOk g h = true → J.go i H ∧ ∀ x H', J.yld i H x H' → Keep K H H' ∧ Sim W K ρ h H' ∧ ∃ d, xs[i]? = some d ∧ RelI W K ρ H' d x
  stop : ∀ H ρ h, ρ0 <+: ρ → Keep K H0 H → Sim W K ρ h H → gOk g h = true → J.stop xs.length H
def tIt (it : It) : TI := fun σ H R => ∃ ρ s h xs g h', RelS W K ρ H s σ ∧ Sim W K ρ h H ∧ evI G cs it s h = some (xs, g, h') ∧ Nxt W K ρ H h' fun ρ' H' => ∀ J, WkD W K ρ' H' J xs g → R J H'
def Wp (t : Tg) (σ σ' : L2.St) : Prop := ∀ own, tgIn own t = true → L2.wipe σ' own = L2.wipe σ own
def Wps (t : Tgs) (σ σ' : L2.St) : Prop := ∀ own, tgsIn own t = true → L2.wipe σ' own = L2.wipe σ own
def tTg (t : Tg) : TG := fun v σ H Q => ∃ ρ s h d s' h', RelS W K ρ H s σ ∧ Sim W K ρ h H ∧ RelI W K ρ H d v ∧ st G cs t d s h = some (s', h') ∧ Nxt W K ρ H h' fun ρ' H' => ∀ σ', RelS W K ρ' H' s' σ' → Wp t σ σ' → Q σ' H'
def tTgs (ts : Tgs) : TGs := fun vs σ H Q => ∃ ρ s h ds s' h', RelS W K ρ H s σ ∧ Sim W K ρ h H ∧ RelIs W K ρ H ds vs ∧ sts G cs ts ds s h = some (s', h') ∧ Nxt W K ρ H h' fun ρ' H' => ∀ σ', RelS W K ρ' H' s' σ' → Wps ts σ σ' → Q σ' H'
end
section
variable {W : Pl} {K : PySem.W.Frag} {ρ ρ1 : List Addr} {H H1 : Hp} {h' : Hh} {d : D} {Q : VK}
theorem RetD.mono (k : RetD W K ρ H d h' Q) (p : ρ <+: ρ1) (kk : Keep K H H1) : RetD W K ρ1 H1 d h' Q := fun ρ' H' p' k' S v r => k ρ' H' (p.trans p') (kk.trans k') S v r
theorem Nxt.mono {Pv : List Addr → Hp → Prop} (k : Nxt W K ρ H h' Pv) (p : ρ <+: ρ1) (kk : Keep K H H1) : Nxt W K ρ1 H1 h' Pv := fun ρ' H' p' k' S => k ρ' H' (p.trans p') (kk.trans k') S
end
section
variable {X : Cx}
theorem _root_.L2.PE.imp {e : Expr} {t t' : TE} (h : PE X e t) (hi : ∀ σ H Q, t' σ H Q → t σ H Q) : PE X e t' := ⟨fun pins s σ H Q I q => h.run pins s σ H Q I (hi σ H Q q)⟩
theorem _root_.L2.PT.imp {e : Expr} {t t' : TT} (h : PT X e t) (hi : ∀ σ H Q, t' σ H Q → t σ H Q) : PT X e t' := ⟨fun pins s σ H Q I q => h.run pins s σ H Q I (hi σ H Q q)⟩
theorem _root_.L2.PW.imp {e : Expr} {t t' : TT} (h : PW X e t) (hi : ∀ σ H Q, t' σ H Q → t σ H Q) : PW X e t' := ⟨fun wh pins s σ H Q I q => h.run wh pins s σ H Q I (hi σ H Q q)⟩
theorem _root_.L2.PA.imp {e : List Expr} {t t' : TA} (h : PA X e t) (hi : ∀ σ H Q, t' σ H Q → t σ H Q) : PA X e t' := ⟨fun pos pins s σ H Q I q => h.run pos pins s σ H Q I (hi σ H Q q)⟩
theorem _root_.L2.PI.imp {tg e : Expr} {t t' : TI} (h : PI X tg e t) (hi : ∀ σ H Q, t' σ H Q → t σ H Q) : PI X tg e t' := ⟨fun pins s σ H Q I q => h.run pins s σ H Q I (hi σ H Q q)⟩
theorem _root_.L2.PI.or {tg e : Expr} {t t' : TI} (h : PI X tg e t) (h' : PI X tg e t') : PI X tg e (fun σ H R => t σ H R ∨ t' σ H R) := ⟨fun pins s σ H Q I q => q.elim (h.run pins s σ H Q I) (h'.run pins s σ H Q I)⟩
theorem _root_.L2.PE.or {e : Expr} {t t' : TE} (h : PE X e t) (h' : PE X e t') : PE X e (fun σ H R => t σ H R ∨ t' σ H R) := ⟨fun pins s σ H Q I q => q.elim (h.run pins s σ H Q I) (h'.run pins s σ H Q I)⟩
theorem _root_.L2.PE.ex {ι : Type} {e : Expr} {t : ι → TE} (h : ∀ i, PE X e (t i)) : PE X e (fun σ H R => ∃ i, t i σ H R) := ⟨fun pins s σ H Q I q => q.elim fun i q => (h i).run pins s σ H Q I q⟩
theorem _root_.L2.PG.imp {e : Expr} {t t' : TG} (h : PG X e t) (hi : ∀ v σ H Q, t' v σ H Q → t v σ H Q) : PG X e t' := ⟨fun pins s σ H v u Q I r q => h.run pins s σ H v u Q I r (hi v σ H Q q)⟩
theorem _root_.L2.PGs.imp {e : List Expr} {t t' : TGs} (h : PGs X e t) (hi : ∀ v σ H Q, t' v σ H Q → t v σ H Q) : PGs X e t' := ⟨fun pins s σ H v u Q I r q => h.run pins s σ H v u Q I r (hi v σ H Q q)⟩
theorem _root_.L2.PG.or {e : Expr} {t t' : TG} (h : PG X e t) (h' : PG X e t') : PG X e (fun v σ H R => t v σ H R ∨ t' v σ H R) := ⟨fun pins s σ H v u Q I r q => q.elim (h.run pins s σ H v u Q I r) (h'.run pins s σ H v u Q I r)⟩

/-! ### small facts of the text -/
theorem star_cons {e : Expr} {es : List Expr} {env : Env} (h : notStar e = true) : starEach (e :: es) env = (false, eval e env) :: starEach es env := by
  cases e <;> first | rfl | (simp [notStar] at h)
theorem star_plain {pos : Pos} {env : Env} : ∀ {es : List Expr}, es.all notStar = true → (backTo pos (starEach es env)).any (·.1) = false
  | [], _ => rfl
  | e :: es, h => by
    simp only [List.all_cons, Bool.and_eq_true] at h
    rw [star_cons h.1]
    have ih := star_plain (pos := pos) (env := env) h.2
    unfold backTo at ih ⊢
    rw [List.map_cons, List.any_cons, ih]
    rfl
theorem plainIx_of {e : Expr} (h : plainIxB e = true) : ∀ o i, subscripted e false o i = operate [o, i] (getItem o i) := by
  intro o i
  cases e <;> first | rfl | (simp [plainIxB] at h)
theorem base_of {o : Expr} {f : Str} {env : Env} (h : noSuper o = true) : attributeBase o f env (eval o env) = eval o env := by
  unfold attributeBase
  split
  · simp [noSuper] at h
  · rfl
theorem isTrue_of {e : Expr} {env : Env} (h : plainT e = true) : ∀ whole, isTrue e env whole = (do let v ← whole; standAt e.pos; holding [v] (truthy v)) := by
  intro whole
  cases e <;> first | rfl | (simp [plainT] at h; done) | skip
  rename_i op x pos
  cases op <;> first | rfl | (simp [plainT] at h)
theorem dbg_of {x : Str} (h : dbgB x = true) : (x == ("__debug__" : Str)) = false ∧ (x == ("__classdict__" : Str)) = false ∧ x ≠ "__name__" := by
  unfold dbgB at h
  simp only [Bool.and_eq_true, Bool.not_eq_true', decide_eq_false_iff_not] at h
  exact ⟨h.1.1, h.1.2, h.2⟩
theorem set_of {e : Expr} {env : Env} (h : noSetB e = true) : ∀ x, foldedSetIterable e env x = pure x := by
  intro x
  cases e <;> first | rfl | (simp [noSetB] at h)
end
end Z
end

-- ZE
section
set_option Elab.async false
set_option linter.all false
set_option maxRecDepth 100000
set_option maxHeartbeats 2000000
/-! An expression that is checked against its text does what the machine does. -/
namespace Z
open PySem L2 PySem.Spec PyProof.Rows
section
variable {P : Program} {w : World} {K : PySem.W.Frag} {mg : Str → Option Value} {base : Heap} {W : Pl} {G : GEnv} {E : CkE} {cs : CS} {k : Nat} {N : List Str} {X : Cx} {sc : Scope}

/-! ### pieces -/
theorem i_var (g : Cxt P w K mg base k N X sc) {i : Nat} {x : Str} {pos : Pos} (hv : visB sc x = true) (hd : dbgB x = true) (hn : N[i]? = some x) : PE X (.Name x pos) (tI W K G cs (.var i)) := by
  obtain ⟨d1, d2, d3⟩ := dbg_of hd
  refine (pe_var (i := i) (by rw [g.nn]; exact hn) (g.vis x hv) d1 d2).imp fun σ H Q h => ?_
  obtain ⟨ρ, s, h, d, h', rs, S, e, q⟩ := h
  simp only [ev] at e
  split at e
  · rename_i d' e1
    cases e
    obtain ⟨v, e2, r⟩ := rs.get e1
    exact ⟨v, e2, q.here S r⟩
  · cases e
theorem i_con {ex : Expr} {v : V} {d : D} (h : PE X ex (tC v)) (r : ∀ ρ H, RelI W K ρ H d v) : PE X ex (tI W K G cs (.con d)) := by
  refine h.imp fun σ H Q h => ?_
  obtain ⟨ρ, s, h, d', h', rs, S, e, q⟩ := h
  simp only [ev] at e
  cases e
  exact q.here S (r _ _)
theorem i_glo (F : Fct P w K mg base W G E cs k) (g : Cxt P w K mg base k N X sc) {j : Nat} {pos : Pos} (hj : j < E.ng) (hg : globB sc (E.gnm j) = true) (hd : dbgB (E.gnm j) = true) : PE X (.Name (E.gnm j) pos) (tI W K G cs (.glo j)) := by
  obtain ⟨v, u, e1, r, r2⟩ := F.glo j hj
  refine (pe_glob (v := v) (u := u) (g.glob _ hg) (by rw [g.mm]; exact e1) r (dbg_of hd).1).imp fun σ H Q h => ?_
  obtain ⟨ρ, s, h, d', h', rs, S, e, q⟩ := h
  simp only [ev] at e
  cases e
  exact q.here S (r2 _ _)
theorem i_nil : PA X [] (tAs W K G cs .nil) := pa_nil.imp fun σ H Q h => by
  obtain ⟨ρ, s, h, ds, h', rs, S, e, q⟩ := h
  simp only [evs] at e
  cases e
  exact q ρ H (List.prefix_refl _) Keep.refl S [] rfl
theorem i_cons {a : Ex} {as : Exs} {e : Expr} {es : List Expr} (ha : PE X e (tI W K G cs a)) (hs : PA X es (tAs W K G cs as)) (hn : notStar e = true) : PA X (e :: es) (tAs W K G cs (.cons a as)) :=
  (pa_cons ha hs (star_cons hn)).imp fun σ H Q h => by
    obtain ⟨ρ, s, h, ds, h', rs, S, e, q⟩ := h
    simp only [evs] at e
    split at e
    · rename_i d h1 e1
      split at e
      · rename_i ds' h2 e2
        cases e
        refine ⟨ρ, s, h, d, h1, rs, S, e1, fun ρ1 H1 p1 k1 S1 v1 r1 => ⟨ρ1, s, h1, ds', _, rs.mono p1 k1, S1, e2, fun ρ2 H2 p2 k2 S2 vs r2 => ?_⟩⟩
        exact q ρ2 H2 (p1.trans p2) (k1.trans k2) S2 (v1 :: vs) ⟨v1, vs, rfl, RelI.mono p2 k2 _ _ r1, r2⟩
      · cases e
    · cases e
theorem i_star {a : Ex} {as : Exs} {e : Expr} {es : List Expr} {p : Pos} (hk : X.K = K) (ha : PE X e (tI W K G cs a)) (hs : PA X es (tAs W K G cs as)) : PA X (.Starred e p :: es) (tAs W K G cs (.star a as)) :=
  (StX.pa_star ha hs rfl).imp fun σ H Q h => by
    obtain ⟨ρ, s, h, ds, h', rs, S, e, q⟩ := h
    simp only [evs] at e
    split at e
    · rename_i d h1 e1
      split at e
      · rename_i xs e0
        split at e
        · rename_i ds' h2 e2
          cases e
          refine ⟨ρ, s, h, d, h1, rs, S, e1, fun ρ1 H1 p1 k1 S1 v1 r1 => ?_⟩
          obtain ⟨b, ys, rfl, rl, sq⟩ := S1.seq e0 r1
          refine ⟨b, ys, rfl, ?_, ⟨ρ1, s, h1, ds', _, rs.mono p1 k1, S1, e2, fun ρ2 H2 p2 k2 S2 vs r2 => ?_⟩⟩
          · rw [hk]
            exact sq.symm
          · exact q ρ2 H2 (p1.trans p2) (k1.trans k2) S2 (ys ++ vs) ((RelIs.mono p2 k2 _ _ rl).append r2)
        · cases e
      · cases e
    · cases e
theorem i_tup {as : Exs} {es : List Expr} {x1 : Nat} {pos : Pos} (hs : PA X es (tAs W K G cs as)) : PE X (.Tuple es x1 pos) (tI W K G cs (.tup as)) :=
  (pe_tup hs).imp fun σ H Q h => by
    obtain ⟨ρ, s, h, d, h', rs, S, e, q⟩ := h
    simp only [ev] at e
    split at e
    · rename_i ds h1 e1
      split at e
      · rename_i hl
        cases e
        refine ⟨ρ, s, h, ds, _, rs, S, e1, fun ρ1 H1 p1 k1 S1 vs r1 => ⟨by rw [← r1.length]; exact line_ok hl, ?_⟩⟩
        exact (q.mono p1 k1).newT S1 r1
      · cases e
    · cases e
theorem i_lst {as : Exs} {es : List Expr} {pos : Pos} (hs : PA X es (tAs W K G cs as)) : PE X (.List es pos) (tI W K G cs (.lst as)) :=
  (pe_lst hs).imp fun σ H Q h => by
    obtain ⟨ρ, s, h, d, h', rs, S, e, q⟩ := h
    simp only [ev] at e
    split at e
    · rename_i ds h1 e1
      split at e
      · rename_i hl
        simp only [newL, Option.some.injEq, Prod.mk.injEq] at e
        obtain ⟨rfl, rfl⟩ := e
        refine ⟨ρ, s, h, ds, _, rs, S, e1, fun ρ1 H1 p1 k1 S1 vs r1 => ⟨by rw [← r1.length]; exact line_ok hl, ?_⟩⟩
        exact (q.mono p1 k1).newL S1 r1
      · cases e
    · cases e
/-- an operator of two -/
theorem bin_in {p : Prim} {a b : Ex} {σ : L2.St} {H : Hp} {Q : VK} (h : tI W K G cs (.bin p a b) σ H Q) : tOp (rP2 W K G p) (tI W K G cs a) (tI W K G cs b) σ H Q := by
  obtain ⟨ρ, s, h, d, h', rs, S, e, q⟩ := h
  simp only [ev] at e
  split at e
  · rename_i x h1 e1
    split at e
    · rename_i y h2 e2
      refine ⟨ρ, s, h, x, h1, rs, S, e1, fun ρ1 H1 p1 k1 S1 v1 r1 => ⟨ρ1, s, h1, y, h2, rs.mono p1 k1, S1, e2, fun ρ2 H2 p2 k2 S2 v2 r2 => ?_⟩⟩
      exact ⟨ρ2, h2, x, y, d, h', S2, RelI.mono p2 k2 _ _ r1, r2, e, q.mono (p1.trans p2) (k1.trans k2)⟩
    · cases e
  · cases e
theorem un_in {p : Prim} {a : Ex} {σ : L2.St} {H : Hp} {Q : VK} (h : tI W K G cs (.un p a) σ H Q) : tUn (rP1 W K p) (tI W K G cs a) σ H Q := by
  obtain ⟨ρ, s, h, d, h', rs, S, e, q⟩ := h
  simp only [ev] at e
  split at e
  · rename_i x h1 e1
    exact ⟨ρ, s, h, x, h1, rs, S, e1, fun ρ1 H1 p1 k1 S1 v1 r1 => ⟨ρ1, h1, x, d, h', S1, r1, e, q.mono p1 k1⟩⟩
  · cases e
theorem app_in {p : Prim} {as : Exs} {σ : L2.St} {H : Hp} {Q : VK} (h : tI W K G cs (.app p as) σ H Q) : tCB (rPN W K G p) (tAs W K G cs as) σ H Q := by
  obtain ⟨ρ, s, h, d, h', rs, S, e, q⟩ := h
  simp only [ev] at e
  split at e
  · rename_i ds h1 e1
    exact ⟨ρ, s, h, ds, h1, rs, S, e1, fun ρ1 H1 p1 k1 S1 vs r1 => ⟨ρ1, h1, ds, d, h', S1, r1, e, q.mono p1 k1⟩⟩
  · cases e
/-- a value is its truth -/
theorem truth_v {ρ : List Addr} {h : Hh} {H : Hp} {d : D} {v : V} {b : Bool} (e : truth h d = some b) (r : RelI W K ρ H d v) : TruV K v H b := by
  cases d with
  | bl c => simp only [truth, Option.some.injEq] at e; subst e; obtain rfl : v = _ := r; exact rfl
  | non => simp only [truth, Option.some.injEq] at e; subst e; obtain rfl : v = _ := r; exact rfl
  | int c => simp only [truth, Option.some.injEq] at e; subst e; obtain rfl : v = _ := r; exact rfl
  | _ => simp [truth] at e
/-- a test by its value -/
theorem t_val {e : Ex} {x : Expr} (hk : X.K = K) (h : PE X x (tI W K G cs e)) (hp : plainT x = true) : PT X x (tTT W K G cs (.val e)) :=
  (pt_truth h (isTrue_of hp)).imp fun σ H Q h => by
    obtain ⟨ρ, s, h, b, h', rs, S, e, q⟩ := h
    simp only [evT] at e
    split at e
    · rename_i d h1 e1
      split at e
      · rename_i b' e2
        cases e
        refine ⟨ρ, s, h, d, _, rs, S, e1, fun ρ1 H1 p1 k1 S1 v1 r1 => ⟨b, ?_, q ρ1 H1 p1 k1 S1⟩⟩
        rw [hk]
        exact truth_v e2 r1
      · cases e
    · cases e
/-- a comparison as a test -/
theorem t_cmp {e : Ex} {x : Expr} {t : TE} (h : PT X x (tTest t)) (hi : ∀ σ H Q, tI W K G cs e σ H Q → t σ H Q) (hb : ∀ s h d h', ev G cs e s h = some (d, h') → ∃ c, d = .bl c) : PT X x (tTT W K G cs (.val e)) :=
  h.imp fun σ H Q h => by
    obtain ⟨ρ, s, h, b, h', rs, S, e1, q⟩ := h
    simp only [evT] at e1
    split at e1
    · rename_i d h1 e2
      split at e1
      · rename_i b' e3
        cases e1
        refine hi _ _ _ ⟨ρ, s, h, d, _, rs, S, e2, fun ρ1 H1 p1 k1 S1 v1 r1 => ?_⟩
        obtain ⟨c, rfl⟩ := hb _ _ _ _ e2
        simp only [truth, Option.some.injEq] at e3
        subst e3
        obtain rfl : v1 = _ := r1
        exact ⟨_, rfl, q ρ1 H1 p1 k1 S1⟩
      · cases e1
    · cases e1
theorem cmp_bl {op : CmpOp} {p : Prim} (hp : cmpP op = some p) {x y d : D} {h h' : Hh} (e : prim2 G p x y h = some (d, h')) : ∃ c, d = .bl c := by
  have key : ∀ {a : Bool} {h0 : Hh}, some (D.bl a, h0) = some (d, h') → ∃ c, d = .bl c := fun {a h0} q => by
    cases q
    exact ⟨_, rfl⟩
  cases op <;> simp only [cmpP, Option.some.injEq] at hp <;> first | (cases hp; done) | skip
  all_goals subst hp
  all_goals simp only [prim2] at e
  all_goals (split at e <;> first | exact key e | cases e)
/-! ### and, or, not -/
theorem w_and1 {b : Ts} {y : Expr} {pos : Pos} (hb : PT X y (tTT W K G cs b)) : PW X (.BoolOp .And [y] pos) (tTT W K G cs b) := pw_and1 hb
theorem w_or1 {b : Ts} {y : Expr} {pos : Pos} (hb : PT X y (tTT W K G cs b)) : PW X (.BoolOp .Or [y] pos) (tTT W K G cs b) := pw_or1 hb
theorem and_in {a b : Ts} {σ : L2.St} {H : Hp} {Q : Bool → Hp → Prop} (h : tTT W K G cs (.and a b) σ H Q) : tAnd (tTT W K G cs a) (tTT W K G cs b) σ H Q := by
  obtain ⟨ρ, s, h, d, h', rs, S, e, q⟩ := h
  simp only [evT] at e
  split at e
  · rename_i h1 e1
    exact ⟨ρ, s, h, true, h1, rs, S, e1, fun ρ1 H1 p1 k1 S1 => iteT ⟨ρ1, s, h1, d, h', rs.mono p1 k1, S1, e, q.mono p1 k1⟩⟩
  · rename_i h1 e1
    cases e
    exact ⟨ρ, s, h, false, _, rs, S, e1, fun ρ1 H1 p1 k1 S1 => iteF (q ρ1 H1 p1 k1 S1)⟩
  · cases e
theorem or_in {a b : Ts} {σ : L2.St} {H : Hp} {Q : Bool → Hp → Prop} (h : tTT W K G cs (.or a b) σ H Q) : tOr (tTT W K G cs a) (tTT W K G cs b) σ H Q := by
  obtain ⟨ρ, s, h, d, h', rs, S, e, q⟩ := h
  simp only [evT] at e
  split at e
  · rename_i h1 e1
    cases e
    exact ⟨ρ, s, h, true, _, rs, S, e1, fun ρ1 H1 p1 k1 S1 => iteT (q ρ1 H1 p1 k1 S1)⟩
  · rename_i h1 e1
    exact ⟨ρ, s, h, false, h1, rs, S, e1, fun ρ1 H1 p1 k1 S1 => iteF ⟨ρ1, s, h1, d, h', rs.mono p1 k1, S1, e, q.mono p1 k1⟩⟩
  · cases e
theorem t_not {a : Ts} {x : Expr} {pos : Pos} (h : PT X x (tTT W K G cs a)) : PT X (.UnaryOp .Not x pos) (tTT W K G cs (.not a)) :=
  (pt_not h).imp fun σ H Q h => by
    obtain ⟨ρ, s, h, d, h', rs, S, e, q⟩ := h
    simp only [evT] at e
    split at e
    · rename_i b h1 e1
      cases e
      exact ⟨ρ, s, h, b, _, rs, S, e1, fun ρ1 H1 p1 k1 S1 => q ρ1 H1 p1 k1 S1⟩
    · cases e
theorem andv_in {a b : Ex} {σ : L2.St} {H : Hp} {Q : VK} (h : tI W K G cs (.and a b) σ H Q) : tAndV (tI W K G cs a) (tI W K G cs b) σ H Q := by
  obtain ⟨ρ, s, h, d, h', rs, S, e, q⟩ := h
  simp only [ev] at e
  split at e
  · rename_i h1 e1
    refine ⟨ρ, s, h, _, h1, rs, S, e1, fun ρ1 H1 p1 k1 S1 v r => ?_⟩
    obtain rfl : v = _ := r
    exact ⟨true, rfl, iteT ⟨ρ1, s, h1, d, h', rs.mono p1 k1, S1, e, q.mono p1 k1⟩⟩
  · rename_i h1 e1
    cases e
    refine ⟨ρ, s, h, _, _, rs, S, e1, fun ρ1 H1 p1 k1 S1 v r => ?_⟩
    obtain rfl : v = _ := r
    exact ⟨false, rfl, iteF (q ρ1 H1 p1 k1 S1 _ rfl)⟩
  · cases e
theorem orv_in {a b : Ex} {σ : L2.St} {H : Hp} {Q : VK} (h : tI W K G cs (.or a b) σ H Q) : tOrV (tI W K G cs a) (tI W K G cs b) σ H Q := by
  obtain ⟨ρ, s, h, d, h', rs, S, e, q⟩ := h
  simp only [ev] at e
  split at e
  · rename_i h1 e1
    cases e
    refine ⟨ρ, s, h, _, _, rs, S, e1, fun ρ1 H1 p1 k1 S1 v r => ?_⟩
    obtain rfl : v = _ := r
    exact ⟨true, rfl, iteT (q ρ1 H1 p1 k1 S1 _ rfl)⟩
  · rename_i h1 e1
    refine ⟨ρ, s, h, _, h1, rs, S, e1, fun ρ1 H1 p1 k1 S1 v r => ?_⟩
    obtain rfl : v = _ := r
    exact ⟨false, rfl, iteF ⟨ρ1, s, h1, d, h', rs.mono p1 k1, S1, e, q.mono p1 k1⟩⟩
  · cases e
theorem i_not {a : Ex} {x : Expr} {pos : Pos} (h : PE X x (tI W K G cs a)) : PE X (.UnaryOp .Not x pos) (tI W K G cs (.not a)) :=
  (pe_not h).imp fun σ H Q h => by
    obtain ⟨ρ, s, h, d, h', rs, S, e, q⟩ := h
    simp only [ev] at e
    split at e
    · rename_i b h1 e1
      cases e
      refine ⟨ρ, s, h, _, _, rs, S, e1, fun ρ1 H1 p1 k1 S1 v r => ?_⟩
      obtain rfl : v = _ := r
      exact ⟨b, rfl, q ρ1 H1 p1 k1 S1 _ rfl⟩
    · cases e
theorem i_ite {t : Ts} {a b : Ex} {tx ax bx : Expr} {pos : Pos} (ht : PT X tx (tTT W K G cs t)) (ha : PE X ax (tI W K G cs a)) (hb : PE X bx (tI W K G cs b)) : PE X (.IfExp tx ax bx pos) (tI W K G cs (.ite t a b)) :=
  (pe_ifExp ht ha hb).imp fun σ H Q h => by
    obtain ⟨ρ, s, h, d, h', rs, S, e, q⟩ := h
    simp only [ev] at e
    split at e
    · rename_i h1 e1
      exact ⟨ρ, s, h, true, h1, rs, S, e1, fun ρ1 H1 p1 k1 S1 => iteT ⟨ρ1, s, h1, d, h', rs.mono p1 k1, S1, e, q.mono p1 k1⟩⟩
    · rename_i h1 e1
      exact ⟨ρ, s, h, false, h1, rs, S, e1, fun ρ1 H1 p1 k1 S1 => iteF ⟨ρ1, s, h1, d, h', rs.mono p1 k1, S1, e, q.mono p1 k1⟩⟩
    · cases e
/-! ### operators by the text's signs -/
theorem op_bin {op : Operator} {p : Prim} (hk : X.K = K) (hp : binP op = some p) : OpR X (binaryOp op) (rP2 W K G p) := by
  subst hk
  cases op <;> simp only [binP, Option.some.injEq] at hp <;> first | (cases hp; done) | subst hp
  · exact z_add
  · exact z_sub
  · exact z_mul
  · exact z_mod
  · exact z_pow
  · exact z_fdiv
theorem op_cmp {op : CmpOp} {p : Prim} (hk : X.K = K) (hu : X.A.units + 65 < cLine) (hp : cmpP op = some p) : OpR X (compareOp op) (rP2 W K G p) := by
  subst hk
  cases op <;> simp only [cmpP, Option.some.injEq] at hp <;> first | (cases hp; done) | subst hp
  · exact z_eq (by omega)
  · exact z_ne (by omega)
  · exact z_lt
  · exact z_le
  · exact z_gt
  · exact z_ge
  · exact z_in hu
  · exact z_nin hu
theorem Cxt.units (g : Cxt P w K mg base k N X sc) : X.A.units + 65 < cLine := by
  have h := g.room.un
  omega
theorem i_bin (g : Cxt P w K mg base k N X sc) {p : Prim} {op : Operator} {a b : Ex} {x y : Expr} {pos : Pos} (hp : binP op = some p) (ha : PE X x (tI W K G cs a)) (hb : PE X y (tI W K G cs b)) : PE X (.BinOp x op y pos) (tI W K G cs (.bin p a b)) :=
  (pe_op (op_bin g.kk hp) ha hb).imp fun σ H Q h => bin_in h
theorem i_cmp (g : Cxt P w K mg base k N X sc) {p : Prim} {op : CmpOp} {a b : Ex} {x y : Expr} {pos : Pos} (hp : cmpP op = some p) (hm : behindInMarks op y = false) (ha : PE X x (tI W K G cs a)) (hb : PE X y (tI W K G cs b)) : PE X (.Compare x [op] [y] pos) (tI W K G cs (.bin p a b)) :=
  (pe_cmpR (op_cmp g.kk g.units hp) ha hb hm).imp fun σ H Q h => bin_in h
theorem t_cmp2 (g : Cxt P w K mg base k N X sc) {p : Prim} {op : CmpOp} {a b : Ex} {x y : Expr} {pos : Pos} (hp : cmpP op = some p) (hm : behindInMarks op y = false) (ha : PE X x (tI W K G cs a)) (hb : PE X y (tI W K G cs b)) : PT X (.Compare x [op] [y] pos) (tTT W K G cs (.val (.bin p a b))) :=
  t_cmp (pt_cmpR (op_cmp g.kk g.units hp) ha hb hm) (fun σ H Q h => bin_in h) fun s h d h' e => by
    simp only [ev] at e
    split at e
    · split at e
      · exact cmp_bl hp e
      · cases e
    · cases e
theorem i_ix (F : Fct P w K mg base W G E cs k) (g : Cxt P w K mg base k N X sc) {a b : Ex} {x y : Expr} {pos : Pos} (hy : plainIxB y = true) (ha : PE X x (tI W K G cs a)) (hb : PE X y (tI W K G cs b)) : PE X (.Subscript x y pos) (tI W K G cs (.bin .ix a b)) := by
  have hw : WdOk W X.K X.prog X.w G := by rw [g.kk, g.prog, g.wo]; exact F.wd
  have h := z_ix (X := X) (W := W) (G := G) g.units hw
  rw [g.kk] at h
  exact (pe_ix h ha hb (plainIx_of hy)).imp fun σ H Q h => bin_in h
theorem isn_in {b : Bool} {a : Ex} {p : Prim} (hp : ∀ x h, prim1 p x h = some (.bl (if b = true then decide (x = .non) else !decide (x = .non)), h)) {σ : L2.St} {H : Hp} {Q : VK} (h : tI W K G cs (.un p a) σ H Q) :
    tI W K G cs a σ H fun x H' => Q (.bl (if b = true then decide (x = .non) else !decide (x = .non))) H' := by
  obtain ⟨ρ, s, h, d, h', rs, S, e, q⟩ := h
  simp only [ev] at e
  split at e
  · rename_i x h1 e1
    rw [hp] at e
    cases e
    refine ⟨ρ, s, h, x, _, rs, S, e1, fun ρ1 H1 p1 k1 S1 v r => ?_⟩
    have hx : decide (v = V.non) = decide (x = D.non) := by
      cases x <;> (try (obtain rfl : v = _ := r)) <;> (try rfl)
      · obtain ⟨a, ys, rfl, _⟩ := r; rfl
      · obtain ⟨a, rfl, _⟩ := r; rfl
      · obtain ⟨a, ys, rfl, _⟩ := r; rfl
    show Q (V.bl (if b = true then decide (v = V.non) else !decide (v = V.non))) H1
    rw [hx]
    exact q ρ1 H1 p1 k1 S1 _ rfl
  · cases e
theorem i_isN {a : Ex} {x : Expr} {pos p2 : Pos} {j : Nat} (ha : PE X x (tI W K G cs a)) : PE X (.Compare x [.Is] [.Constant .none j p2] pos) (tI W K G cs (.un .isN a)) :=
  (pe_cmp (pc_isN ha) rfl).imp fun σ H Q h => isn_in (b := true) (fun _ _ => rfl) h
theorem i_notN {a : Ex} {x : Expr} {pos p2 : Pos} {j : Nat} (ha : PE X x (tI W K G cs a)) : PE X (.Compare x [.IsNot] [.Constant .none j p2] pos) (tI W K G cs (.un .notN a)) :=
  (pe_cmp (pc_notN ha) rfl).imp fun σ H Q h => isn_in (b := false) (fun _ _ => rfl) h
theorem un_bl {p : Prim} {a : Ex} (hp : ∀ x h d h', prim1 p x h = some (d, h') → ∃ c, d = .bl c) : ∀ s h d h', ev G cs (.un p a) s h = some (d, h') → ∃ c, d = .bl c := fun s h d h' e => by
  simp only [ev] at e
  split at e
  · exact hp _ _ _ _ e
  · cases e
theorem t_isN {a : Ex} {x : Expr} {pos p2 : Pos} {j : Nat} (ha : PE X x (tI W K G cs a)) : PT X (.Compare x [.Is] [.Constant .none j p2] pos) (tTT W K G cs (.val (.un .isN a))) :=
  t_cmp (pt_cmp (pc_isN ha) rfl) (fun σ H Q h => isn_in (b := true) (fun _ _ => rfl) h) (un_bl fun x h d h' e => by cases e; exact ⟨_, rfl⟩)
theorem t_notN {a : Ex} {x : Expr} {pos p2 : Pos} {j : Nat} (ha : PE X x (tI W K G cs a)) : PT X (.Compare x [.IsNot] [.Constant .none j p2] pos) (tTT W K G cs (.val (.un .notN a))) :=
  t_cmp (pt_cmp (pc_notN ha) rfl) (fun σ H Q h => isn_in (b := false) (fun _ _ => rfl) h) (un_bl fun x h d h' e => by cases e; exact ⟨_, rfl⟩)
theorem i_neg (g : Cxt P w K mg base k N X sc) {a : Ex} {x : Expr} {pos : Pos} (ha : PE X x (tI W K G cs a)) : PE X (.UnaryOp .USub x pos) (tI W K G cs (.un .neg a)) := by
  have h := z_neg (X := X) (W := W)
  rw [g.kk] at h
  exact (pe_un h ha).imp fun σ H Q h => un_in h
theorem chn_in {p q : Prim} {o1 : CmpOp} {a b c : Ex} (hp : cmpP o1 = some p) {σ : L2.St} {H : Hp} {Q : VK} (h : tI W K G cs (.chn p q a b c) σ H Q) : tChain (rP2 W K G p) (rP2 W K G q) (tI W K G cs a) (tI W K G cs b) (tI W K G cs c) σ H Q := by
  obtain ⟨ρ, s, h, d, h', rs, S, e, kk⟩ := h
  simp only [ev] at e
  split at e
  · rename_i x h1 e1
    split at e
    · rename_i y h2 e2
      refine ⟨ρ, s, h, x, h1, rs, S, e1, fun ρ1 H1 p1 k1 S1 v1 r1 => ⟨ρ1, s, h1, y, h2, rs.mono p1 k1, S1, e2, fun ρ2 H2 p2 k2 S2 v2 r2 => ?_⟩⟩
      split at e
      · rename_i h3 e3
        refine ⟨ρ2, h2, x, y, _, h3, S2, RelI.mono p2 k2 _ _ r1, r2, e3, fun ρ3 H3 p3 k3 S3 v3 r3 => ?_⟩
        obtain rfl : v3 = _ := r3
        refine ⟨true, rfl, iteT ?_⟩
        split at e
        · rename_i z h4 e4
          refine ⟨ρ3, s, h3, z, h4, rs.mono ((p1.trans p2).trans p3) ((k1.trans k2).trans k3), S3, e4, fun ρ4 H4 p4 k4 S4 v4 r4 => ?_⟩
          exact ⟨ρ4, h4, y, z, d, h', S4, RelI.mono (p3.trans p4) (k3.trans k4) _ _ r2, r4, e, kk.mono (((p1.trans p2).trans p3).trans p4) (((k1.trans k2).trans k3).trans k4)⟩
        · cases e
      · rename_i h3 e3
        cases e
        refine ⟨ρ2, h2, x, y, _, _, S2, RelI.mono p2 k2 _ _ r1, r2, e3, fun ρ3 H3 p3 k3 S3 v3 r3 => ?_⟩
        obtain rfl : v3 = _ := r3
        exact ⟨false, rfl, iteF (kk ρ3 H3 ((p1.trans p2).trans p3) ((k1.trans k2).trans k3) S3 _ rfl)⟩
      · cases e
    · cases e
  · cases e
theorem i_chn (g : Cxt P w K mg base k N X sc) {p q : Prim} {o1 o2 : CmpOp} {a b c : Ex} {x y z : Expr} {pos : Pos} (hp : cmpP o1 = some p) (hq : cmpP o2 = some q) (hm : behindInMarks o1 y = false) (hm2 : behindInMarks o2 z = false)
    (ha : PE X x (tI W K G cs a)) (hb : PE X y (tI W K G cs b)) (hc : PE X z (tI W K G cs c)) : PE X (.Compare x [o1, o2] [y, z] pos) (tI W K G cs (.chn p q a b c)) := by
  refine (pe_chain (op_cmp (W := W) (G := G) g.kk g.units hp) (op_cmp (W := W) (G := G) g.kk g.units hq) ha hb hc (by simpa [lastMarks] using hm2)).imp fun σ H Q h => ?_
  exact chn_in hp h
theorem t_chn (g : Cxt P w K mg base k N X sc) {p q : Prim} {o1 o2 : CmpOp} {a b c : Ex} {x y z : Expr} {pos : Pos} (hp : cmpP o1 = some p) (hq : cmpP o2 = some q) (hm : behindInMarks o1 y = false) (hm2 : behindInMarks o2 z = false)
    (ha : PE X x (tI W K G cs a)) (hb : PE X y (tI W K G cs b)) (hc : PE X z (tI W K G cs c)) : PT X (.Compare x [o1, o2] [y, z] pos) (tTT W K G cs (.val (.chn p q a b c))) :=
  t_cmp (pt_chain (op_cmp (W := W) (G := G) g.kk g.units hp) (op_cmp (W := W) (G := G) g.kk g.units hq) ha hb hc (by simpa [lastMarks] using hm2)) (fun σ H Q h => chn_in hp h) fun s h d h' e => by
    simp only [ev] at e
    split at e
    · split at e
      · split at e
        · split at e
          · exact cmp_bl hq e
          · cases e
        · cases e
          exact ⟨_, rfl⟩
        · cases e
      · cases e
    · cases e
/-! ### calls -/
theorem i_app (g : Cxt P w K mg base k N X sc) (F : Fct P w K mg base W G E cs k) {p : Prim} {as : Exs} {x : Str} {e : Expr} {l : List Expr} {pp pos : Pos} (hs : notStar e = true) (hl : l.all notStar = true) (hg : globB sc x = true) (hd : dbgB x = true)
    (ha : PA X (e :: l) (tAs W K G cs as)) (hb : (match bkOf p with
    | some (.fn y id) => decide (x = y) && decide (x ∈ E.free)
    | some (.ty y id) => decide (x = y) && decide (x ∈ E.free)
    | some (.own y id) => decide (x = y) && E.gcd
    | none => false) = true) : PE X (.Call (.Name x pp) (e :: l) [] pos) (tI W K G cs (.app p as)) := by
  obtain ⟨d1, d2, d3⟩ := dbg_of hd
  have hk := g.kk
  subst hk
  have fr : ∀ {y : Str}, y ∈ E.free → X.mg y = none := fun {y} hy => by rw [g.mm]; exact F.free y hy
  have go : ∀ {id : String} {y : Str}, CallR X (.builtin id) (rPN W X.K G p) → bootBuiltins y = some (.builtin id) → (decide (x = y) && decide (x ∈ E.free)) = true → PE X (.Call (.Name x pp) (e :: l) [] pos) (tI W X.K G cs (.app p as)) := fun {id y} hc hv hh => by
    simp only [Bool.and_eq_true, decide_eq_true_eq] at hh
    obtain ⟨rfl, h2⟩ := hh
    exact (pe_callB hc (g.glob _ hg) (fr h2) hv ha d3 d1 (star_cons hs) (star_plain hl)).imp fun σ H Q h => app_in h
  have goT : ∀ {id : String} {y : Str}, CallR X (.type id) (rPN W X.K G p) → bootBuiltins y = some (.type id) → (decide (x = y) && decide (x ∈ E.free)) = true → PE X (.Call (.Name x pp) (e :: l) [] pos) (tI W X.K G cs (.app p as)) := fun {id y} hc hv hh => by
    simp only [Bool.and_eq_true, decide_eq_true_eq] at hh
    obtain ⟨rfl, h2⟩ := hh
    exact (pe_callTy hc (g.glob _ hg) (fr h2) hv ha d3 d1 (star_cons hs) (star_plain hl)).imp fun σ H Q h => app_in h
  cases p <;> simp only [bkOf] at hb <;> first | (cases hb; done) | skip
  · exact go z_abs (by decide +kernel) hb
  · simp only [Bool.and_eq_true, decide_eq_true_eq] at hb
    obtain ⟨rfl, h2⟩ := hb
    exact (pe_callBfun z_gcd (g.glob _ hg) (by rw [g.mm]; exact F.gcd h2) ha d1 (star_cons hs) (star_plain hl)).imp fun σ H Q h => app_in h
  · exact goT z_int (by decide +kernel) hb
  · exact go (z_max2 g.calm) (by decide +kernel) hb
  · exact go (z_min2 g.calm g.units) (by decide +kernel) hb
  · exact go z_len (by decide +kernel) hb
  · exact goT z_list (by decide +kernel) hb
  · exact goT z_tuple (by decide +kernel) hb
  · exact go (z_sum g.calm) (by decide +kernel) hb
  · exact go (z_sumL g.calm) (by decide +kernel) hb
  · exact go (z_all g.calm) (by decide +kernel) hb
  · exact go (z_any g.calm) (by decide +kernel) hb
  · exact go (z_sorted g.units) (by decide +kernel) hb
end
end Z
end

-- ZF
section
set_option Elab.async false
set_option linter.all false
set_option maxRecDepth 100000
set_option maxHeartbeats 2000000
/-! Calls of defs and methods, fields, displays of dicts, comprehensions. -/
namespace Z
open PySem L2 PySem.Spec PyProof.Rows
section
variable {P : Program} {w : World} {K : PySem.W.Frag} {mg : Str → Option Value} {base : Heap} {W : Pl} {G : GEnv} {E : CkE} {cs : CS} {k : Nat} {N : List Str} {X : Cx} {sc : Scope}
theorem sp_in {n : Nat} {fn : List D → Hh → Option (D × Hh)} {ρ : List Addr} {h h' : Hh} {H : Hp} {ds : List D} {vs : List V} {d : D} {Q : VK} (S : Sim W K ρ h H) (r : RelIs W K ρ H ds vs) (e : fn ds h = some (d, h')) (q : RetD W K ρ H d h' Q) (hn : ds.length = n) : spI W K n fn (vs ++ []) H Q E0 := by
  rw [List.append_nil]
  exact ⟨ρ, ds, h, d, h', S, r, e, hn, q⟩
theorem fn_cast (g : Cxt P w K mg base k N X sc) {n : Nat} {fa : Addr} {fd : FuncData} {ps : List Str} {sp : Sp} (F : FnOk P w K mg base CX0 n fa fd ps sp) : FnOk X.prog X.w X.K X.mg X.base CX0 n fa fd ps sp := by
  rw [g.prog, g.wo, g.kk, g.mm, g.ba]
  exact F
theorem tAs_nil {σ : L2.St} {H : Hp} {Q : List V → Hp → Prop} (h : tAs W K G cs .nil σ H Q) : Q [] H := by
  obtain ⟨ρ, s, h, ds, h', rs, S, e, q⟩ := h
  simp only [evs] at e
  cases e
  exact q ρ H (List.prefix_refl _) Keep.refl S [] rfl
theorem i_call (g : Cxt P w K mg base k N X sc) (F : Fct P w K mg base W G E cs k) {f : Nat} {as : Exs} {l : List Expr} {pp pos : Pos} (hf : f < E.nf) (hl : l.all notStar = true) (hg : globB sc (E.fnm f) = true) (hd : dbgB (E.fnm f) = true)
    (ha : PA X l (tAs W K G cs as)) (h0 : l = [] → as = .nil) : PE X (.Call (.Name (E.fnm f) pp) l [] pos) (tI W K G cs (.call f as)) := by
  obtain ⟨d1, d2, d3⟩ := dbg_of hd
  obtain ⟨fa, fd, ps, FO, e1, e2, e3, ar⟩ := F.fn f hf
  have hi : ∀ σ H Q, tI W K G cs (.call f as) σ H Q → tCall (spI W K ps.length (cs.fn f)) [] E0 (tAs W K G cs as) σ H Q := fun σ H Q h => by
    obtain ⟨ρ, s, h, d, h', rs, S, e, q⟩ := h
    simp only [ev] at e
    split at e
    · rename_i ds h1 e1
      exact ⟨ρ, s, h, ds, h1, rs, S, e1, fun ρ1 H1 p1 k1 S1 vs r1 => sp_in S1 r1 e (q.mono p1 k1) (ar _ _ _ e)⟩
    · cases e
  cases l with
  | nil =>
    obtain rfl := h0 rfl
    exact (pe_call0 (pos := pos) (p := pp) (fn_cast g FO) g.room (g.glob _ hg) (by rw [g.mm]; exact e1) (by rw [g.kk]; exact e2) (by rw [g.kk]; exact e3) (dvs := []) .nil pass0 d1).imp fun σ H Q h => tAs_nil (hi σ H Q h)
  | cons x xs =>
    simp only [List.all_cons, Bool.and_eq_true] at hl
    exact (pe_call (fn_cast g FO) g.room (g.glob _ hg) (by rw [g.mm]; exact e1) (by rw [g.kk]; exact e2) (by rw [g.kk]; exact e3) (dvs := []) .nil pass0 ha d1 (star_cons hl.1) (star_plain hl.2)).imp hi
/-- a new instance -/
theorem i_new (g : Cxt P w K mg base k N X sc) (F : Fct P w K mg base W G E cs k) {c : Nat} {as : Exs} {l : List Expr} {pp pos : Pos} (hf : c < E.nc) (hl : l.all notStar = true) (hg : globB sc (E.cnm c) = true) (hd : dbgB (E.cnm c) = true)
    (ha : PA X l (tAs W K G cs as)) (h0 : l = [] → as = .nil) : PE X (.Call (.Name (E.cnm c) pp) l [] pos) (tI W K G cs (.new c as)) := by
  obtain ⟨d1, d2, d3⟩ := dbg_of hd
  obtain ⟨fa, fd, ps, e1, e2, e3, FO, ar⟩ := F.mkr c hf
  have hi : ∀ σ H Q, tI W K G cs (.new c as) σ H Q → tMake (W.cl c) (spI W K ps.length (cs.mi (G.ini c))) [] E0 (tAs W K G cs as) σ H Q := fun σ H Q h => by
    obtain ⟨ρ, s, h, d, h', rs, S, e, q⟩ := h
    simp only [ev] at e
    split at e
    · rename_i ds h1 e1
      split at e
      · rename_i h2 e2
        cases e
        refine ⟨ρ, s, h, ds, h1, rs, S, e1, fun ρ1 H1 p1 k1 S1 vs r1 => fun x dx hx hdx hne => ?_⟩
        have hx2 : upd H1 dx (.own x) x = none := by rw [upd_ne (Ne.symm hne)]; exact hx
        have k2 : Keep K H1 (upd H1 dx (.own x)) := Keep.new hdx
        have k3 : Keep K (upd H1 dx (.own x)) (upd (upd H1 dx (.own x)) x (.ins (W.cl c) dx [])) := Keep.new hx2
        have S3 : Sim W K (ρ1 ++ [x]) (h1 ++ [.ins c []]) (upd (upd H1 dx (.own x)) x (.ins (W.cl c) dx [])) := (S1.ext hdx).alloc hx2 ⟨dx, [], upd_same, rfl⟩
        have hat : (ρ1 ++ [x])[h1.length]? = some x := by rw [← S1.len]; exact app_at
        have r3 : RelIs W K (ρ1 ++ [x]) (upd (upd H1 dx (.own x)) x (.ins (W.cl c) dx [])) (.ref h1.length :: ds) (.ref x :: vs) := ⟨_, _, rfl, ⟨x, rfl, hat⟩, RelIs.mono pre_app (k2.trans k3) _ _ r1⟩
        have := sp_in (n := ps.length) (fn := cs.mi (G.ini c)) (Q := fun v H2 => v = .non ∧ Q (.ref x) H2) S3 r3 e2 (fun ρ2 H2 p2 k4 S4 v rv => ⟨rv, q ρ2 H2 (p1.trans (pre_app.trans p2)) (k1.trans ((k2.trans k3).trans k4)) S4 _ ⟨x, rfl, pre_get p2 hat⟩⟩) (ar _ _ _ e2)
        simpa using this
      · cases e
    · cases e
  have hm : Mk X.K (W.cl c) fa := by rw [g.kk]; exact e2
  cases l with
  | nil =>
    obtain rfl := h0 rfl
    exact (pe_make0 (pos := pos) (p := pp) hm (fn_cast g FO) g.room (g.glob _ hg) (by rw [g.mm]; exact e1) (by rw [g.kk]; exact e3) (dvs := []) .nil pass0 d1).imp fun σ H Q h => tAs_nil (hi σ H Q h)
  | cons x xs =>
    simp only [List.all_cons, Bool.and_eq_true] at hl
    exact (pe_make hm (fn_cast g FO) g.room (g.glob _ hg) (by rw [g.mm]; exact e1) (by rw [g.kk]; exact e3) (dvs := []) .nil pass0 ha d1 (star_cons hl.1) (star_plain hl.2)).imp hi
theorem few_of {l : List Expr} {env : Env} {cpos : Pos} (hl : l.all notStar = true) (hn : l.length < 20) : ((backTo cpos (starEach l env)).all (fun x => !x.1) && (backToKw cpos (keywordEach [] env)).all (fun x => x.1.isSome)
      && decide (l.length + ([] : List Keyword).length + (if ([] : List Keyword).isEmpty then 0 else 1) < 30)) = true := by
  have h1 : (backTo cpos (starEach l env)).all (fun x => !x.1) = true := by
    have h2 := star_plain (pos := cpos) (env := env) hl
    rw [List.all_eq_true]
    intro x hx
    have h3 := List.any_eq_false.mp h2 x hx
    simpa using h3
  rw [h1]
  have h4 : (backToKw cpos (keywordEach [] env)).all (fun x => x.1.isSome) = true := rfl
  rw [h4]
  simp
  omega
theorem meth_eval {o : Expr} {m : Str} {apos pos : Pos} {l : List Expr} {env : Env} (hs : noSuper o = true) (hl : l.all notStar = true) (hn : l.length < 20) (hline : (apos.endLine == pos.line) = true) :
    eval (.Call (.Attribute o m apos) l [] pos) env = (do
      let ov ← eval o env
      standAt apos.atName
      let (f, first) ← holding [ov] (getMethod ov m (do return (← importBound o env).getD true))
      callWith pos f first (backTo pos (starEach l env)) (backToKw pos (keywordEach [] env))) := by
  have h1 : eval (.Call (.Attribute o m apos) l [] pos) env = (do
    let ov ← attributeBase o m env (eval o env)
    standAt apos.atName
    methodCall o m apos pos env ov (l.length + 0) (backTo pos (starEach l env)) (backToKw pos (keywordEach [] env))) := rfl
  have hf : methodCallForm (l.length + 0) (backTo pos (starEach l env)) (backToKw pos (keywordEach [] env)) = true := few_of hl hn
  rw [h1, base_of hs]
  have h2 : ∀ ov, methodCall o m apos pos env ov (l.length + 0) (backTo pos (starEach l env)) (backToKw pos (keywordEach [] env)) = (do
      let (f, first) ← holding [ov] (getMethod ov m (do return (← importBound o env).getD true))
      callWith pos f first (backTo pos (starEach l env)) (backToKw pos (keywordEach [] env))) := fun ov => by
    unfold methodCall calleeOf methodCallPos
    rw [hf, hline]
    rfl
  simp only [h2]
/-- a method of an own class -/
theorem i_umt (g : Cxt P w K mg base k N X sc) (F : Fct P w K mg base W G E cs k) {m : Nat} {o : Ex} {as : Exs} {ox : Expr} {l : List Expr} {apos pos : Pos} (hs : noSuper ox = true) (hl : l.all notStar = true) (hn : l.length < 20) (hline : (apos.endLine == pos.line) = true)
    (ho : PE X ox (tI W K G cs o)) (ha : PA X l (tAs W K G cs as)) (h0 : l = [] → as = .nil) : PE X (.Call (.Attribute ox (W.nm m) apos) l [] pos) (tI W K G cs (.umt m o as)) := by
  -- by the class and the def that come
  have key : ∀ (cf : {cf : Nat × Nat // G.mth cf.1 m = some cf.2}), PE X (.Call (.Attribute ox (W.nm m) apos) l [] pos) (fun σ H Q => ∃ ρ s h n h1 fs ds h2 d h', RelS W K ρ H s σ ∧ Sim W K ρ h H ∧ ev G cs o s h = some (.ref n, h1) ∧ h1[n]? = some (.ins cf.1.1 fs) ∧ kget m fs = none ∧ evs G cs as s h1 = some (ds, h2) ∧ cs.fn cf.1.2 (.ref n :: ds) h2 = some (d, h') ∧ RetD W K ρ H d h' Q) := by
    rintro ⟨⟨c, f⟩, hcf⟩
    obtain ⟨fa, fd, ps, e1, e2, e3, FO, ar⟩ := F.mth c m f hcf
    have hi : ∀ σ H Q, (∃ ρ s h n h1 fs ds h2 d h', RelS W K ρ H s σ ∧ Sim W K ρ h H ∧ ev G cs o s h = some (.ref n, h1) ∧ h1[n]? = some (.ins c fs) ∧ kget m fs = none ∧ evs G cs as s h1 = some (ds, h2) ∧ cs.fn f (.ref n :: ds) h2 = some (d, h') ∧ RetD W K ρ H d h' Q) → tMeth (W.cl c) (W.nm m) (spI W K ps.length (cs.fn f)) [] E0 (tI W K G cs o) (tAs W K G cs as) σ H Q := fun σ H Q h => by
      obtain ⟨ρ, s, h, n, h1, fs, ds, h2, d, h', rs, S, q1, q2, q3, q4, q5, q⟩ := h
      refine ⟨ρ, s, h, _, h1, rs, S, q1, fun ρ1 H1 p1 k1 S1 v r => ?_⟩
      obtain ⟨a, rfl, ea⟩ := r
      obtain ⟨dx, fs', ha', rf⟩ := S1.at_ n _ a q2 ea
      rcases rf.val F.inj (f := m) with ⟨_, hl2⟩ | ⟨dd, vv, z1, _, _⟩
      · refine ⟨a, dx, fs', rfl, ha', hl2, ρ1, s, h1, ds, h2, rs.mono p1 k1, S1, q4, fun ρ2 H2 p2 k2 S2 vs r2 => ?_⟩
        exact sp_in (ds := .ref n :: ds) (vs := .ref a :: vs) S2 ⟨_, _, rfl, ⟨a, rfl, pre_get p2 ea⟩, r2⟩ q5 (q.mono (p1.trans p2) (k1.trans k2)) (ar _ _ _ q5)
      · rw [z1] at q3
        cases q3
    have hc : Cls X.K (W.cl c) := by rw [g.kk]; exact e1
    have hm : Meth X.K (W.cl c) (W.nm m) fa := by rw [g.kk]; exact e2
    cases l with
    | nil =>
      obtain rfl := h0 rfl
      refine (pe_meth0 ho hc hm (fn_cast g FO) g.room (by rw [g.kk]; exact e3) (dvs := []) .nil pass0 (meth_eval hs rfl (by decide) hline)).imp fun σ H Q h => ?_
      obtain ⟨ρ, s, h, d, h', rs, S, q1, q2⟩ := hi σ H Q h
      refine ⟨ρ, s, h, d, h', rs, S, q1, fun ρ1 H1 p1 k1 S1 v r => ?_⟩
      obtain ⟨a, dx, fs, z1, z2, z3, z4⟩ := q2 ρ1 H1 p1 k1 S1 v r
      exact ⟨a, dx, fs, z1, z2, z3, tAs_nil z4⟩
    | cons x xs =>
      have hev := meth_eval (o := ox) (m := W.nm m) (apos := apos) (pos := pos) (env := X.env) hs hl hn hline
      simp only [List.all_cons, Bool.and_eq_true] at hl
      exact (pe_meth ho hc hm (fn_cast g FO) g.room (by rw [g.kk]; exact e3) (dvs := []) .nil pass0 ha (star_cons hl.1) (star_plain hl.2) hev).imp hi
  refine (PE.ex key).imp fun σ H Q h => ?_
  obtain ⟨ρ, s, h, d, h', rs, S, e, q⟩ := h
  simp only [ev] at e
  split at e
  · rename_i n h1 e1
    split at e
    · rename_i c fs e2
      split at e
      · rename_i f e3 e4
        split at e
        · rename_i ds h2 e5
          exact ⟨⟨(c, f), e4⟩, ρ, s, h, n, h1, fs, ds, h2, d, h', rs, S, e1, e2, e3, e5, e, q⟩
        · cases e
      · cases e
    · cases e
  · cases e
/-- a field -/
theorem i_fld (g : Cxt P w K mg base k N X sc) (F : Fct P w K mg base W G E cs k) {f : Nat} {o : Ex} {ox : Expr} {pos : Pos} (hs : noSuper ox = true) (ho : PE X ox (tI W K G cs o)) : PE X (.Attribute ox (W.nm f) pos) (tI W K G cs (.fld f o)) :=
  (pe_fld ho (base_of hs)).imp fun σ H Q h => by
    obtain ⟨ρ, s, h, d, h', rs, S, e, q⟩ := h
    simp only [ev] at e
    split at e
    · rename_i n h1 e1
      split at e
      · rename_i c fs e2
        split at e
        · rename_i hf
          split at e
          · rename_i v e3
            cases e
            obtain ⟨hc, hn⟩ := F.fld c f hf
            refine ⟨ρ, s, h, _, _, rs, S, e1, fun ρ1 H1 p1 k1 S1 vv r => ?_⟩
            obtain ⟨a, rfl, ea⟩ := r
            obtain ⟨dx, fs', ha', rf⟩ := S1.at_ n _ a e2 ea
            rcases rf.val F.inj (f := f) with ⟨z1, _⟩ | ⟨dd, u, z1, z2, z3⟩
            · rw [z1] at e3
              cases e3
            · rw [z1] at e3
              cases e3
              exact ⟨a, W.cl c, dx, fs', u, rfl, ha', by rw [g.kk]; exact hc, by rw [g.kk]; exact hn, z2, q ρ1 H1 p1 k1 S1 u z3⟩
          · cases e
        · cases e
      · cases e
    · cases e
/-- a method of a list -/
theorem met_in {p : Prim} {o : Ex} {as : Exs} {σ : L2.St} {H : Hp} {Q : VK} (h : tI W K G cs (.met p o as) σ H Q) : tBM K "list" (rMt W K G p) (tI W K G cs o) (tAs W K G cs as) σ H Q := by
  obtain ⟨ρ, s, h, d, h', rs, S, e, q⟩ := h
  simp only [ev] at e
  split at e
  · rename_i n h1 e1
    split at e
    · rename_i xs e2
      split at e
      · rename_i ds h2 e3
        refine ⟨ρ, s, h, _, h1, rs, S, e1, fun ρ1 H1 p1 k1 S1 v r => ?_⟩
        obtain ⟨a, rfl, ea⟩ := r
        obtain ⟨ys, q1, rl⟩ := S1.lst e2 ea
        refine ⟨Or.inl ⟨rfl, _, SqL.of q1⟩, ρ1, s, h1, ds, h2, rs.mono p1 k1, S1, e3, fun ρ2 H2 p2 k2 S2 vs r2 => ?_⟩
        exact ⟨ρ2, h2, .ref n :: ds, d, h', S2, ⟨_, _, rfl, ⟨a, rfl, pre_get p2 ea⟩, r2⟩, e, q.mono (p1.trans p2) (k1.trans k2)⟩
      · cases e
    · cases e
  · cases e
theorem i_met (g : Cxt P w K mg base k N X sc) {p : Prim} {m : Str} {o : Ex} {as : Exs} {ox : Expr} {l : List Expr} {apos cpos : Pos} (hs : noSuper ox = true) (hl : l.all notStar = true) (hn : l.length < 20) (hline : (apos.endLine == cpos.line) = true) (hm : mtOf p = some m)
    (ho : PE X ox (tI W K G cs o)) (ha : PA X l (tAs W K G cs as)) (h0 : l = [] → as = .nil) : PE X (.Call (.Attribute ox m apos) l [] cpos) (tI W K G cs (.met p o as)) := by
  have hk := g.kk
  subst hk
  have go : ∀ {id : String}, MtR X id (rMt W X.K G p) → Slot "list" m id → typeOf (.builtin id) = pure (.type "method_descriptor") → PE X (.Call (.Attribute ox m apos) l [] cpos) (tI W X.K G cs (.met p o as)) := fun {id} hr hsl hty => by
    cases l with
    | nil =>
      obtain rfl := h0 rfl
      refine (pe_bm0 PySem.F.plainAttrs_list hsl hty hr ho (base_of hs) hline).imp fun σ H Q h => ?_
      obtain ⟨ρ, s, h, d, h', rs, S, q1, q2⟩ := met_in h
      exact ⟨ρ, s, h, d, h', rs, S, q1, fun ρ1 H1 p1 k1 S1 v r => ⟨(q2 ρ1 H1 p1 k1 S1 v r).1, tAs_nil (q2 ρ1 H1 p1 k1 S1 v r).2⟩⟩
    | cons x xs =>
      have hf := few_of (env := X.env) (cpos := cpos) hl hn
      simp only [List.all_cons, Bool.and_eq_true] at hl
      exact (pe_bm PySem.F.plainAttrs_list hsl hty hr ho ha (base_of hs) hf hline (star_cons hl.1) (star_plain hl.2)).imp fun σ H Q h => met_in h
  cases p <;> simp only [mtOf, Option.some.injEq] at hm <;> first | (cases hm; done) | subst hm
  · exact go z_append PySem.F.slot_list_append PySem.F.type_list_append
  · exact go z_pop PySem.F.slot_list_pop PySem.F.type_list_pop
  · exact go z_popAt PySem.F.slot_list_pop PySem.F.type_list_pop
end
end Z
end

-- ZG
section
set_option Elab.async false
set_option linter.all false
set_option maxRecDepth 100000
set_option maxHeartbeats 2000000
/-! What is walked, where it goes, displays of dicts, comprehensions. -/
namespace Z
open PySem L2 PySem.Spec PyProof.Rows
section
variable {P : Program} {w : World} {K : PySem.W.Frag} {mg : Str → Option Value} {base : Heap} {W : Pl} {G : GEnv} {E : CkE} {cs : CS} {k : Nat} {N : List Str} {X : Cx} {sc : Scope}
theorem gOk_mem {g : Gd} {h : Hh} (e : gOk g h = true) {p : Nat × O} (hp : p ∈ g) : h[p.1]? = some p.2 := of_decide_eq_true (List.all_eq_true.mp e p hp)
theorem wk_tup {ρ0 : List Addr} {H0 : Hp} {a : Addr} {xs : List D} {ys : List V} (q : SqT K H0 a ys) (r : RelIs W K ρ0 H0 xs ys) : WkD W K ρ0 H0 (Itt K a) xs [] where
  go := fun i H ρ h hi p kk S _ => by
    have q1 := kk.1 a ys q
    have hi' : i < ys.length := by rw [← r.length]; exact hi
    refine ⟨⟨ys, ys[i], q1, List.getElem?_eq_getElem hi'⟩, fun x H' hy => ?_⟩
    obtain ⟨rfl, hy⟩ := hy
    obtain ⟨y, ey, ry⟩ := r.get (i := i) (x := xs[i]) (List.getElem?_eq_getElem hi)
    have := hy ys q1
    rw [ey] at this
    cases this
    exact ⟨Keep.refl, S, _, List.getElem?_eq_getElem hi, RelI.mono p kk _ _ ry⟩
  stop := fun H ρ h p kk S _ => ⟨ys, kk.1 a ys q, by rw [← r.length]; exact Nat.le_refl _⟩
theorem wk_lst {ρ0 : List Addr} {H0 : Hp} {n : Nat} {a : Addr} {xs : List D} (ea : ρ0[n]? = some a) : WkD W K ρ0 H0 (Itl K a) xs [(n, .lst xs)] where
  go := fun i H ρ h hi p kk S gk => by
    have e := gOk_mem gk (List.mem_singleton.mpr rfl)
    obtain ⟨ys, q1, r⟩ := S.lst e (pre_get p ea)
    have hi' : i < ys.length := by rw [← r.length]; exact hi
    refine ⟨⟨ys, ys[i], SqL.of q1, List.getElem?_eq_getElem hi'⟩, fun x H' hy => ?_⟩
    obtain ⟨rfl, hy⟩ := hy
    obtain ⟨y, ey, ry⟩ := r.get (i := i) (x := xs[i]) (List.getElem?_eq_getElem hi)
    have := hy ys (SqL.of q1)
    rw [ey] at this
    cases this
    exact ⟨Keep.refl, S, _, List.getElem?_eq_getElem hi, ry⟩
  stop := fun H ρ h p kk S gk => by
    have e := gOk_mem gk (List.mem_singleton.mpr rfl)
    obtain ⟨ys, q1, r⟩ := S.lst e (pre_get p ea)
    exact ⟨ys, SqL.of q1, by rw [← r.length]; exact Nat.le_refl _⟩
theorem wk_rl {ρ0 : List Addr} {H0 : Hp} {a : Addr} {xs : List D} {ys : List V} (q : Fz K H0 a ys) (r : RelIs W K ρ0 H0 xs ys) : WkD W K ρ0 H0 (Itl K a) xs [] where
  go := fun i H ρ h hi p kk S _ => by
    have q1 := (kk.2 a ys q).sq
    have hi' : i < ys.length := by rw [← r.length]; exact hi
    refine ⟨⟨ys, ys[i], q1, List.getElem?_eq_getElem hi'⟩, fun x H' hy => ?_⟩
    obtain ⟨rfl, hy⟩ := hy
    obtain ⟨y, ey, ry⟩ := r.get (i := i) (x := xs[i]) (List.getElem?_eq_getElem hi)
    have := hy ys q1
    rw [ey] at this
    cases this
    exact ⟨Keep.refl, S, _, List.getElem?_eq_getElem hi, RelI.mono p kk _ _ ry⟩
  stop := fun H ρ h p kk S _ => ⟨ys, (kk.2 a ys q).sq, by rw [← r.length]; exact Nat.le_refl _⟩
theorem rangeD_len {lo : Int} {n : Nat} : (rangeD lo n).length = n := by simp [rangeD]
theorem rangeD_get {lo : Int} {n i : Nat} (h : i < n) : (rangeD lo n)[i]? = some (.int (lo + (i : Nat))) := by simp [rangeD, h]
theorem wk_rng {ρ0 : List Addr} {H0 : Hp} {lo : Int} {n : Nat} : WkD W K ρ0 H0 (Itr lo n) (rangeD lo n) [] where
  go := fun i H ρ h hi p kk S _ => by
    rw [rangeD_len] at hi
    refine ⟨hi, fun x H' hy => ?_⟩
    obtain ⟨rfl, rfl⟩ := hy
    exact ⟨Keep.refl, S, _, rangeD_get hi, rfl⟩
  stop := fun H ρ h p kk S _ => by
    rw [rangeD_len]
    exact Nat.le_refl _
theorem s_seq (hk : X.K = K) {a : Ex} {e tg : Expr} (ha : PE X e (tI W K G cs a)) : PI X tg e (tIt W K G cs (.seq a)) := by
  subst hk
  refine (PI.or (pi_list ha) (pi_tup ha)).imp fun σ H R h => ?_
  obtain ⟨ρ, s, h, xs, g, h', rs, S, e1, q⟩ := h
  simp only [evI] at e1
  split at e1
  · rename_i d h1 e2
    split at e1
    · rename_i xs' g' e3
      cases e1
      unfold itSeq at e3
      split at e3
      · cases e3
        refine .inr ⟨ρ, s, h, _, _, rs, S, e2, fun ρ1 H1 p1 k1 S1 v r => ?_⟩
        obtain ⟨a, ys, rfl, q1, rl⟩ := r
        exact ⟨a, rfl, ⟨ys, q1⟩, q ρ1 H1 p1 k1 S1 _ (wk_tup q1 rl)⟩
      · cases e3
        refine .inl ⟨ρ, s, h, _, _, rs, S, e2, fun ρ1 H1 p1 k1 S1 v r => ?_⟩
        obtain ⟨a, ys, rfl, q1, rl⟩ := r
        exact ⟨a, rfl, ⟨ys, q1.sq⟩, q ρ1 H1 p1 k1 S1 _ (wk_rl q1 rl)⟩
      · split at e3
        · rename_i n _ e4
          cases e3
          refine .inl ⟨ρ, s, h, _, _, rs, S, e2, fun ρ1 H1 p1 k1 S1 v r => ?_⟩
          obtain ⟨a, rfl, ea⟩ := r
          obtain ⟨ys, q1, rl⟩ := S1.lst e4 ea
          exact ⟨a, rfl, ⟨ys, SqL.of q1⟩, q ρ1 H1 p1 k1 S1 _ (wk_lst ea)⟩
        · cases e3
      · cases e3
    · cases e1
  · cases e1
theorem s_rng1 (g : Cxt P w K mg base k N X sc) (F : Fct P w K mg base W G E cs k) {a : Ex} {e tg : Expr} {p pos : Pos} (hg : globB sc "range" = true) (hf : ("range" : Str) ∈ E.free) (hs : notStar e = true) (ha : PE X e (tI W K G cs a)) : PI X tg (.Call (.Name "range" p) [e] [] pos) (tIt W K G cs (.rng1 a)) := by
  refine (pi_range1 (g.glob _ hg) (by rw [g.mm]; exact F.free _ hf) (pa_cons ha pa_nil (star_cons hs)) (star_cons hs)).imp fun σ H R h => ?_
  obtain ⟨ρ, s, h, xs, gd, h', rs, S, e1, q⟩ := h
  simp only [evI] at e1
  split at e1
  · rename_i n h1 e2
    split at e1
    · rename_i hn
      cases e1
      simp only [small62, decide_eq_true_eq] at hn
      refine ⟨ρ, s, h, _, _, rs, S, e2, fun ρ1 H1 p1 k1 S1 v r => ?_⟩
      obtain rfl : v = _ := r
      exact ⟨n, rfl, by omega, by omega, q ρ1 H1 p1 k1 S1 _ wk_rng⟩
    · cases e1
  · cases e1
theorem s_rng2 (g : Cxt P w K mg base k N X sc) (F : Fct P w K mg base W G E cs k) {a b : Ex} {e e2 tg : Expr} {p pos : Pos} (hg : globB sc "range" = true) (hf : ("range" : Str) ∈ E.free) (hs : notStar e = true) (hs2 : notStar e2 = true) (ha : PE X e (tI W K G cs a)) (hb : PE X e2 (tI W K G cs b)) :
    PI X tg (.Call (.Name "range" p) [e, e2] [] pos) (tIt W K G cs (.rng2 a b)) := by
  refine (pi_range2 (g.glob _ hg) (by rw [g.mm]; exact F.free _ hf) (pa_cons ha (pa_cons hb pa_nil (star_cons hs2)) (star_cons hs)) (by rw [star_cons hs, star_cons hs2]; rfl) (star_cons hs2)).imp fun σ H R h => ?_
  obtain ⟨ρ, s, h, xs, gd, h', rs, S, e1, q⟩ := h
  simp only [evI] at e1
  split at e1
  · rename_i lo h1 q1
    split at e1
    · rename_i n h2 q2
      split at e1
      · rename_i hn
        cases e1
        simp only [small62, decide_eq_true_eq] at hn
        refine ⟨ρ, s, h, _, _, rs, S, q1, fun ρ1 H1 p1 k1 S1 v r => ⟨ρ1, s, h1, _, _, rs.mono p1 k1, S1, q2, fun ρ2 H2 p2 k2 S2 v2 r2 => ?_⟩⟩
        obtain rfl : v = _ := r
        obtain rfl : v2 = _ := r2
        exact ⟨lo, n, rfl, ⟨by omega, by omega, by omega, by omega⟩, q ρ2 H2 (p1.trans p2) (k1.trans k2) S2 _ wk_rng⟩
      · cases e1
    · cases e1
  · cases e1

/-! ### targets -/
theorem wipe_set {σ : L2.St} {i : Nat} {x : Option V} : ∀ {own : List Nat}, i ∈ own → L2.wipe (σ.set i x) own = L2.wipe σ own
  | [], h => by simp at h
  | v :: vs, h => by
    unfold L2.wipe
    by_cases e : i = v
    · subst e
      by_cases h2 : i ∈ vs
      · rw [wipe_set h2]
      · rw [wipe_notin h2, List.set_set]
    · have h2 : i ∈ vs := by
        rcases List.mem_cons.mp h with z | z
        · exact absurd z e
        · exact z
      rw [wipe_set h2]
where
  wipe_notin {σ : L2.St} {i : Nat} {x : Option V} : ∀ {own : List Nat}, i ∉ own → L2.wipe (σ.set i x) own = (L2.wipe σ own).set i x
  | [], _ => rfl
  | v :: vs, h => by
    unfold L2.wipe
    simp only [List.mem_cons, not_or] at h
    rw [wipe_notin h.2, List.set_comm _ _ h.1]
theorem g_nm (g : Cxt P w K mg base k N X sc) {i : Nat} {x : Str} {pos : Pos} (hl : locB sc x = true) (hn : N[i]? = some x) : PG X (.Name x pos) (tTg W K G cs (.nm i)) := by
  obtain ⟨h1, h2⟩ := g.loc x hl
  refine (pg_name (i := i) (by rw [g.nn]; exact g.nd) (by rw [g.nn]; exact hn) h1 h2).imp fun v σ H Q h => ?_
  obtain ⟨ρ, s, h, d, s', h', rs, S, r, e, q⟩ := h
  simp only [st] at e
  cases e
  exact q ρ H (List.prefix_refl _) Keep.refl S _ (rs.set r i) (fun own ho => wipe_set (of_decide_eq_true ho))
theorem assign_cons {e : Expr} {es : List Expr} {env : Env} (h : notStar e = true) : assignEach (e :: es) env = (false, assign e env) :: assignEach es env := by
  cases e <;> first | rfl | (simp [notStar] at h)
theorem assign_plain {env : Env} : ∀ {es : List Expr}, es.all notStar = true → (assignEach es env).findIdx? (·.1) = none ∧ (assignEach es env).length = es.length
  | [], _ => ⟨rfl, rfl⟩
  | e :: es, h => by
    simp only [List.all_cons, Bool.and_eq_true] at h
    obtain ⟨h1, h2⟩ := assign_plain (env := env) h.2
    rw [assign_cons h.1]
    exact ⟨by simp [List.findIdx?_cons, h1], by simp [h2]⟩
theorem g_nil : PGs X [] (tTgs W K G cs .nil) := pgs_nil.imp fun v σ H Q h => by
  obtain ⟨ρ, s, h, ds, s', h', rs, S, r, e, q⟩ := h
  cases ds with
  | nil =>
    simp only [sts] at e
    cases e
    cases r
    exact ⟨rfl, q ρ H (List.prefix_refl _) Keep.refl S _ rs fun own _ => rfl⟩
  | cons d ds => simp [sts] at e
theorem g_cons {t : Tg} {ts : Tgs} {e : Expr} {es : List Expr} (hn : notStar e = true) (h1 : PG X e (tTg W K G cs t)) (h2 : PGs X es (tTgs W K G cs ts)) : PGs X (e :: es) (tTgs W K G cs (.cons t ts)) :=
  (pgs_cons h1 h2 (by rw [assign_cons hn]; rfl)).imp fun v σ H Q h => by
    obtain ⟨ρ, s, h, ds, s', h', rs, S, r, e, q⟩ := h
    cases ds with
    | nil => simp [sts] at e
    | cons d ds =>
      simp only [sts] at e
      split at e
      · rename_i s1 h1 e1
        obtain ⟨y, yr, rfl, r1, r2⟩ := r
        refine ⟨y, yr, rfl, ρ, s, h, d, s1, h1, rs, S, r1, e1, fun ρ1 H1 p1 k1 S1 σ1 rs1 w1 => ?_⟩
        exact ⟨ρ1, s1, h1, ds, s', h', rs1, S1, RelIs.mono p1 k1 _ _ r2, e, fun ρ2 H2 p2 k2 S2 σ2 rs2 w2 => q ρ2 H2 (p1.trans p2) (k1.trans k2) S2 σ2 rs2 fun own ho => by
          simp only [tgsIn, Bool.and_eq_true] at ho
          rw [w2 own ho.2, w1 own ho.1]⟩
      · cases e
theorem g_tp (g : Cxt P w K mg base k N X sc) {ts : Tgs} {es : List Expr} {j : Nat} {pos : Pos} (hl : es.all notStar = true) (hlen : ∀ ds s h r, sts G cs ts ds s h = some r → ds.length = es.length) (h : PGs X es (tTgs W K G cs ts)) : PG X (.Tuple es j pos) (tTg W K G cs (.tp ts)) := by
  have hk := g.kk
  subst hk
  obtain ⟨a1, a2⟩ := assign_plain (env := X.env) hl
  refine (pg_tup (n := es.length) g.calm h a2 a1).imp fun v σ H Q h => ?_
  obtain ⟨ρ, s, h, d, s', h', rs, S, r, e, q⟩ := h
  simp only [st] at e
  split at e
  · rename_i xs
    obtain ⟨a, ys, rfl, q1, rl⟩ := r
    exact ⟨a, ys, rfl, q1, by rw [← rl.length]; exact hlen _ _ _ _ e, ρ, s, h, xs, s', h', rs, S, rl, e, fun ρ2 H2 p2 k2 S2 σ2 rs2 w2 => q ρ2 H2 p2 k2 S2 σ2 rs2 fun own ho => w2 own ho⟩
  · cases e
/-- o[i] = v: a list or a dict -/
def rSet (K : PySem.W.Frag) : TSet := fun o i v H Q => rSetL o i v H Q ∨ ∃ a H', o = .ref a ∧ DPut H a i v H' ∧ Q H'
theorem set_any (hu : X.A.units + 1 < cLine) : PSet X (rSet K) := by
  intro pins s σ H o i v ov iv u Q I ro ri rv h
  rcases h with h | ⟨a, H', rfl, dp, q⟩
  · exact set_list pins s σ H o i v ov iv u Q I ro ri rv h
  · obtain rfl : ov = Value.ref a := ro
    exact d_setItem hu I dp ri rv fun s' I' => ⟨H', I', q⟩
theorem sub_assign {o i : Expr} {pos : Pos} {env : Env} (h : plainIxB i = true) : ∀ v, assign (.Subscript o i pos) env v = (do
      let ov ← holding [v] (eval o env)
      let iv ← holding [v, ov] (eval i env)
      standAt pos
      holding [v, ov, iv] (setItem ov iv v)
      release [v, ov, iv] []) := by
  intro v
  cases i <;> first | rfl | (simp [plainIxB] at h)
theorem g_sub (g : Cxt P w K mg base k N X sc) {o i : Ex} {oe ie : Expr} {pos : Pos} (hi : plainIxB ie = true) (ho : PE X oe (tI W K G cs o)) (hx : PE X ie (tI W K G cs i)) : PG X (.Subscript oe ie pos) (tTg W K G cs (.sub o i)) := by
  have hu := g.units
  refine (pg_sub ho hx (set_any (K := K) (by omega)) (sub_assign hi)).imp fun v σ H Q h => ?_
  obtain ⟨ρ, s, h, d, s', h', rs, S, r, e, q⟩ := h
  simp only [st] at e
  split at e
  · rename_i x h1 e1
    split at e
    · rename_i kx h2 e2
      refine ⟨ρ, s, h, x, h1, rs, S, e1, fun ρ1 H1 p1 k1 S1 ov ro => ⟨ρ1, s, h1, kx, h2, rs.mono p1 k1, S1, e2, fun ρ2 H2 p2 k2 S2 iv ri => ?_⟩⟩
      have r' := RelI.mono (p1.trans p2) (k1.trans k2) _ _ r
      have rs' := rs.mono (p1.trans p2) (k1.trans k2)
      split at e
      · rename_i n
        obtain ⟨a, rfl, ea⟩ := ro
        have ea2 := pre_get p2 ea
        split at e
        · rename_i xs e3
          split at e
          · rename_i ii
            obtain rfl : iv = _ := ri
            split at e
            · rename_i j e4
              cases e
              obtain ⟨ys, q1, rl⟩ := S2.lst e3 ea2
              have kp : Keep K H2 (upd H2 a (.lst (ys.set j v))) := Keep.mut q1 trivial
              refine .inl ⟨a, ys, ii, j, rfl, rfl, q1, by rw [← rl.length]; exact e4, ?_⟩
              refine q ρ2 _ (p1.trans p2) ((k1.trans k2).trans kp) (S2.set ea2 q1 trivial ⟨_, upd_same, RelIs.mono (List.prefix_refl _) kp _ _ (rl.set r' j)⟩) σ (rs'.mono (List.prefix_refl _) kp) (fun own _ => rfl)
            · cases e
          · cases e
        · rename_i kvs e3
          split at e
          · rename_i kk e4
            split at e
            · rename_i hl
              cases e
              have ex := keyOf_rel e4 ri
              subst ex
              obtain ⟨ys, q1, rk⟩ := S2.dK e3 ea2
              have kp : Keep K H2 (upd H2 a (.dK (putK ys kk v))) := Keep.mut q1 trivial
              refine .inr ⟨a, _, rfl, DPut.k q1 (by rw [← rk.length]; exact line_lt hl), ?_⟩
              refine q ρ2 _ (p1.trans p2) ((k1.trans k2).trans kp) (S2.set ea2 q1 trivial ⟨_, upd_same, RelK.mono (List.prefix_refl _) kp _ _ (rk.put r')⟩) σ (rs'.mono (List.prefix_refl _) kp) (fun own _ => rfl)
            · cases e
          · cases e
        · cases e
      · cases e
    · cases e
  · cases e

/-! ### {k: v, ..} -/
theorem i_dnewT : PE X (.Dict [] [] pos) (tI W K G cs .dnewT) := pe_dnewT.imp fun σ H Q h => by
  obtain ⟨ρ, s, h, d, h', rs, S, e, q⟩ := h
  simp only [ev] at e
  cases e
  intro p hp
  exact q (ρ ++ [p]) _ pre_app (Keep.new hp) (S.alloc hp ⟨[], upd_same, rfl⟩) _ ⟨p, rfl, by rw [← S.len]; exact app_at⟩
/-! ### a comprehension -/
theorem wipe_wipe {σ : L2.St} : ∀ {own : List Nat}, L2.wipe (L2.wipe σ own) own = L2.wipe σ own := by
  intro own
  have key : ∀ (vs : List Nat) (τ : L2.St), (∀ v ∈ vs, v < τ.length → τ[v]? = some none) → L2.wipe τ vs = τ := by
    intro vs
    induction vs with
    | nil => intro τ _; rfl
    | cons v vs ih =>
      intro τ h
      unfold L2.wipe
      rw [ih τ fun u hu => h u (List.mem_cons_of_mem _ hu)]
      apply List.ext_getElem?
      intro i
      by_cases e : v = i
      · subst e
        by_cases hl : v < τ.length
        · rw [List.getElem?_set_self hl, h v List.mem_cons_self hl]
        · rw [List.getElem?_eq_none (by simpa using hl), List.getElem?_eq_none (by omega)]
      · rw [List.getElem?_set_ne e]
  refine key own _ fun v hv hl => ?_
  have := @wipe_some σ v
  cases e : (L2.wipe σ own)[v]? with
  | none => rw [List.getElem?_eq_none_iff] at e; omega
  | some o =>
    cases o with
    | none => rfl
    | some x => exact absurd hv (wipe_some e).2
theorem drop_at {α : Type} {xs : List α} {i : Nat} (h : i < xs.length) : xs.drop i = xs[i] :: xs.drop (i + 1) := by rw [List.drop_eq_getElem_cons h]
theorem lc_in {it : It} {t : Tg} {ts : Ts} {a : Ex} {own : List Nat} (hw : tgIn own t = true) {σ : L2.St} {H : Hp} {Q : VK} (h : tI W K G cs (.lc it t ts a own) σ H Q) : tLc (tIt W K G cs it) (tTg W K G cs t) (tTT W K G cs ts) (tI W K G cs a) own σ H Q := by
  obtain ⟨ρ, s, h, d, hE, rs, S, e, q⟩ := h
  simp only [ev] at e
  split at e
  · rename_i xs gd h1 e1
    split at e
    · rename_i h2 e2
      cases e
      refine ⟨ρ, s, h, xs, gd, h1, rs, S, e1, fun ρ1 H1 p1 k1 S1 J wk Dl hD => ?_⟩
      have rs1 := rs.mono p1 k1
      have S2 : Sim W K (ρ1 ++ [Dl]) (h1 ++ [.lst []]) (upd H1 Dl (.lst [])) := S1.alloc hD ⟨[], upd_same, rfl⟩
      have hat : (ρ1 ++ [Dl])[h1.length]? = some Dl := by rw [← S1.len]; exact app_at
      refine ⟨fun i m H' => m = xs.length - i ∧ i ≤ xs.length ∧ ∃ ρ' h', (ρ1 ++ [Dl]) <+: ρ' ∧ Keep K (upd H1 Dl (.lst [])) H' ∧ Sim W K ρ' h' H' ∧ lcGo (fun x h => match st G cs t x (wipeD s own) h with
        | some (s2, h2) => match evT G cs ts s2 h2 with
          | some (true, h3) => match ev G cs a s2 h3 with
            | some (y, h4) => some (some y, h4)
            | none => none
          | some (false, h3) => some (none, h3)
          | none => none
        | none => none) gd h1.length (xs.drop i) h' = some hE, ⟨xs.length, by simp, Nat.zero_le _, ρ1 ++ [Dl], _, List.prefix_refl _, Keep.refl, S2, e2⟩, ?_⟩
      rintro i m H' ⟨rfl, hle, ρ', h', p', k', S', e'⟩
      have p0 : ρ1 <+: ρ' := pre_app.trans p'
      have k0 : Keep K H1 H' := (Keep.new hD).trans k'
      by_cases hlt : i < xs.length
      · refine .inr ?_
        rw [drop_at hlt] at e'
        simp only [lcGo] at e'
        split at e'
        · rename_i hgk
          obtain ⟨go, yl⟩ := wk.go i H' ρ' h' hlt p0 k0 S' hgk
          refine ⟨go, fun H3 => ∃ ρ3 h3, (ρ1 ++ [Dl]) <+: ρ3 ∧ Keep K (upd H1 Dl (.lst [])) H3 ∧ Sim W K ρ3 h3 H3 ∧ lcGo _ gd h1.length (xs.drop (i + 1)) h3 = some hE, fun H3 ⟨ρ3, h3, z1, z2, z3, z4⟩ => ⟨xs.length - (i + 1), by omega, rfl, hlt, ρ3, h3, z1, z2, z3, z4⟩, fun x H4 hy => ?_⟩
          obtain ⟨k4, S4, dd, ed, rd⟩ := yl x H4 hy
          rw [List.getElem?_eq_getElem hlt] at ed
          cases ed
          have rw4 : RelS W K ρ' H4 (wipeD s own) (L2.wipe σ own) := (rs1.mono p0 (k0.trans k4)).wipe own
          split at e'
          · rename_i y h5 e5
            split at e5
            · rename_i s2 h6 e6
              refine ⟨ρ', _, h', xs[i], s2, h6, rw4, S4, rd, e6, fun ρ5 H5 p5 k5 S5 σ5 rs5 w5 => ⟨by rw [w5 own hw, wipe_wipe], ?_⟩⟩
              split at e5
              · rename_i h7 e7
                refine ⟨ρ5, s2, h6, true, h7, rs5, S5, e7, fun ρ6 H6 p6 k6 S6 => iteT ?_⟩
                split at e5
                · rename_i y' h8 e8
                  cases e5
                  refine ⟨ρ6, s2, h7, y, h5, rs5.mono p6 k6, S6, e8, fun ρ7 H7 p7 k7 S7 v rv => ?_⟩
                  split at e'
                  · rename_i acc e9
                    split at e'
                    · rename_i hl
                      have pA : (ρ1 ++ [Dl]) <+: ρ7 := ((p'.trans p5).trans p6).trans p7
                      have kA : Keep K (upd H1 Dl (.lst [])) H7 := (((k'.trans k4).trans k5).trans k6).trans k7
                      obtain ⟨ys, q1, rl⟩ := S7.lst e9 (pre_get pA hat)
                      have kp : Keep K H7 (upd H7 Dl (.lst (ys ++ [v]))) := Keep.mut q1 trivial
                      refine ⟨ys, q1, by rw [← rl.length]; exact line_lt hl, ρ7, _, pA, kA.trans kp, S7.set (o := .lst (acc ++ [y])) (pre_get pA hat) q1 trivial ⟨_, upd_same, ?_⟩, e'⟩
                      exact RelIs.mono (List.prefix_refl _) kp _ _ (rl.append ⟨v, [], rfl, rv, rfl⟩)
                    · cases e'
                  · cases e'
                · cases e5
              · cases e5
              · cases e5
            · cases e5
          · rename_i h5 e5
            split at e5
            · rename_i s2 h6 e6
              refine ⟨ρ', _, h', xs[i], s2, h6, rw4, S4, rd, e6, fun ρ5 H5 p5 k5 S5 σ5 rs5 w5 => ⟨by rw [w5 own hw, wipe_wipe], ?_⟩⟩
              split at e5
              · split at e5
                · cases e5
                · cases e5
              · rename_i h7 e7
                cases e5
                refine ⟨ρ5, s2, h6, false, h5, rs5, S5, e7, fun ρ6 H6 p6 k6 S6 => iteF ?_⟩
                exact ⟨ρ6, h5, (p'.trans p5).trans p6, ((k'.trans k4).trans k5).trans k6, S6, e'⟩
              · cases e5
            · cases e5
          · cases e'
        · cases e'
      · have hi2 : i = xs.length := by omega
        subst hi2
        rw [List.drop_length] at e'
        simp only [lcGo] at e'
        split at e'
        · rename_i hgk
          cases e'
          refine .inl ⟨wk.stop H' ρ' _ p0 k0 S' hgk, ?_⟩
          exact q ρ' H' (p1.trans p0) (k1.trans k0) S' _ ⟨Dl, rfl, pre_get p' hat⟩
        · cases e'
    · cases e
  · cases e
theorem own_map {own : List Nat} : (ownN N own).map (·.2) = own := by
  unfold ownN
  rw [List.map_map]
  exact List.map_id' own
theorem i_lc (g : Cxt P w K mg base k N X sc) {it : It} {t : Tg} {ts : Ts} {a : Ex} {own : List Nat} {elt tg iter : Expr} {ifs : List Expr} {scope : Scope} {pos : Pos} (hi : PI X tg iter (tIt W K G cs it)) (ok : BlkOk X.N X.env.scope scope (ownN N own)) (hw : tgIn own t = true)
    (hg : ∀ (s : Shared) (H : Hp) (C : Addr) (cl : List (Str × Addr)) (fp : List Addr), PG (X.blk s H scope (compEnvC scope cl C X.env) fp) tg (tTg W K G cs t)) (ht : ∀ (s : Shared) (H : Hp) (C : Addr) (cl : List (Str × Addr)) (fp : List Addr), PTs (X.blk s H scope (compEnvC scope cl C X.env) fp) ifs (tTT W K G cs ts))
    (he : ∀ (s : Shared) (H : Hp) (C : Addr) (cl : List (Str × Addr)) (fp : List Addr), PE (X.blk s H scope (compEnvC scope cl C X.env) fp) elt (tI W K G cs a)) (hs : ∀ x, foldedSetIterable iter X.env x = pure x) :
    PE X (.ListComp elt [⟨tg, iter, ifs, 0⟩] scope pos) (tI W K G cs (.lc it t ts a own)) := by
  refine (pe_lc g.calm (by rw [g.nn]; exact g.nd) hi ok hg ht he hs).imp fun σ H Q h => ?_
  rw [own_map]
  exact lc_in hw h
end
end Z
end

-- ZGa
section
set_option Elab.async false
set_option linter.all false
set_option maxRecDepth 100000
set_option maxHeartbeats 2000000
/-! isinstance, slices, displays of dicts, tests joined. -/
namespace Z
open PySem L2 PySem.Spec PyProof.Rows
section
variable {P : Program} {w : World} {K : PySem.W.Frag} {mg : Str → Option Value} {base : Heap} {W : Pl} {G : GEnv} {E : CkE} {cs : CS} {k : Nat} {N : List Str} {X : Cx} {sc : Scope}
def tyN : Ty → String
  | .non => "NoneType" | .bl => "bool" | .int => "int" | .str => "str" | .tup => "tuple" | .lst => "list" | .dct => "dict"
theorem tyx_of {ρ : List Addr} {h : Hh} {H : Hp} {d : D} {v : V} {t : Ty} (S : Sim W K ρ h H) (e : tyD h d = some t) (r : RelI W K ρ H d v) : TyX K H v (.type (tyN t)) := by
  cases d with
  | non => cases e; obtain rfl : v = _ := r; exact .base .non
  | bl b => cases e; obtain rfl : v = _ := r; exact .base (.bl b)
  | int b => cases e; obtain rfl : v = _ := r; exact .base (.int b)
  | str b => cases e; obtain rfl : v = _ := r; exact .base (.str b)
  | tup xs =>
    cases e
    obtain ⟨a, ys, rfl, q, _⟩ := r
    rcases q with (q | ⟨ob, q⟩) | ⟨o, its, n, q1, q2, _⟩
    · exact .base (.tup q)
    · exact .fTuple q
    · exact .kTuple q1 q2
  | ref n =>
    obtain ⟨a, rfl, ea⟩ := r
    simp only [tyD] at e
    split at e
    · rename_i xs q
      cases e
      obtain ⟨ys, q1, _⟩ := S.at_ n _ a q ea
      exact .base (.lst q1)
    · rename_i xs q
      cases e
      obtain ⟨ys, q1, _⟩ := S.at_ n _ a q ea
      exact .base (.dK q1)
    · rename_i xs q
      cases e
      obtain ⟨ys, q1, _⟩ := S.at_ n _ a q ea
      exact .base (.dT q1)
    · cases e
  | gd j => cases e
  | rl xs =>
    cases e
    obtain ⟨a, ys, rfl, q, _⟩ := r
    rcases q with ⟨o, q⟩ | ⟨o, its, n, q1, q2, _⟩
    · exact .base (.frz q)
    · exact .kList q1 q2
theorem isb_in {p : Prim} {a : Ex} {f : Ty → Bool} (hp : ∀ x h, prim1 p x h = (match tyD h x with
    | some t => some (.bl (f t), h)
    | none => none)) {σ : L2.St} {H : Hp} {Q : VK} (h : tI W K G cs (.un p a) σ H Q) : tI W K G cs a σ H fun x H' => ∃ t, TyX K H' x (.type (tyN t)) ∧ Q (.bl (f t)) H' := by
  obtain ⟨ρ, s, h, d, h', rs, S, e, q⟩ := h
  simp only [ev] at e
  split at e
  · rename_i x h1 e1
    rw [hp] at e
    split at e
    · rename_i t et
      cases e
      exact ⟨ρ, s, h, x, _, rs, S, e1, fun ρ1 H1 p1 k1 S1 v r => ⟨t, tyx_of S1 et r, q ρ1 H1 p1 k1 S1 _ rfl⟩⟩
    · cases e
  · cases e
theorem i_isB (g : Cxt P w K mg base k N X sc) (F : Fct P w K mg base W G E cs k) {p : Prim} {a : Ex} {b : Expr} {T : Str} {Ts : String} {f : Ty → Bool} {pf pt pos : Pos} (hi : ("isinstance" : Str) ∈ E.free) (hg : globB sc "isinstance" = true) (hT : T ∈ E.free) (hgT : globB sc T = true) (hs : notStar b = true)
    (hb : bootBuiltins T = some (.type Ts)) (hk : ∀ t, kitB (tyN t) Ts = some (f t)) (hdn : T ≠ "__name__") (hdb : (T == ("__debug__" : Str)) = false)
    (hp : ∀ x h, prim1 p x h = (match tyD h x with
    | some t => some (.bl (f t), h)
    | none => none)) (ha : PE X b (tI W K G cs a)) : PE X (.Call (.Name "isinstance" pf) [b, .Name T pt] [] pos) (tI W K G cs (.un p a)) := by
  have hm : ∀ {y : Str}, y ∈ E.free → X.mg y = none := fun {y} hy => by rw [g.mm]; exact F.free y hy
  have hk' := g.kk
  subst hk'
  refine (pe_callB (t := tCons (tI W X.K G cs a) (tCons (tC (.ty Ts)) tNil)) call_isi (g.glob _ hg) (hm hi) (by decide +kernel) (pa_cons ha (pa_cons (pe_bltn (v := .ty Ts) (g.glob _ hgT) (hm hT) hb rfl hdn hdb) pa_nil) (star_cons hs)) (by decide) (by decide) (star_cons hs) rfl).imp fun σ H Q h => ?_
  obtain ⟨ρ, s, h, d, h', rs, S, e, q⟩ := isb_in hp h
  refine ⟨ρ, s, h, d, h', rs, S, e, fun ρ1 H1 p1 k1 S1 v r => ?_⟩
  obtain ⟨t, ty, q2⟩ := q ρ1 H1 p1 k1 S1 v r
  exact ⟨v, .ty Ts, _, .type Ts, f t, rfl, .ty Ts, ty, kit_ty (hk t), q2⟩
theorem i_isInt (g : Cxt P w K mg base k N X sc) (F : Fct P w K mg base W G E cs k) {a : Ex} {b : Expr} {pf pt pos : Pos} (hi : ("isinstance" : Str) ∈ E.free) (hg : globB sc "isinstance" = true) (hT : ("int" : Str) ∈ E.free) (hgT : globB sc "int" = true) (hs : notStar b = true)
    (ha : PE X b (tI W K G cs a)) : PE X (.Call (.Name "isinstance" pf) [b, .Name "int" pt] [] pos) (tI W K G cs (.un .isInt a)) :=
  i_isB (Ts := "int") (f := fun t => decide (t = .int ∨ t = .bl)) g F hi hg hT hgT hs (by decide +kernel) (fun t => by cases t <;> decide +kernel) (by decide) (by decide) (fun x h => rfl) ha
theorem i_isBool (g : Cxt P w K mg base k N X sc) (F : Fct P w K mg base W G E cs k) {a : Ex} {b : Expr} {pf pt pos : Pos} (hi : ("isinstance" : Str) ∈ E.free) (hg : globB sc "isinstance" = true) (hT : ("bool" : Str) ∈ E.free) (hgT : globB sc "bool" = true) (hs : notStar b = true)
    (ha : PE X b (tI W K G cs a)) : PE X (.Call (.Name "isinstance" pf) [b, .Name "bool" pt] [] pos) (tI W K G cs (.un .isBool a)) :=
  i_isB (Ts := "bool") (f := fun t => decide (t = .bl)) g F hi hg hT hgT hs (by decide +kernel) (fun t => by cases t <;> decide +kernel) (by decide) (by decide) (fun x h => rfl) ha
theorem kit_seq (t : Ty) : PySem.W.kitAny X.K (.type (tyN t)) [.type "list", .type "tuple"] = some (decide (t = .lst ∨ t = .tup)) :=
  kitAny_cons (b := decide (t = .lst)) (kit_ty (by cases t <;> decide +kernel)) (fun hb => kitAny_cons (b := decide (t = .tup)) (kit_ty (by cases t <;> decide +kernel)) (fun hb2 => by
    have h1 := of_decide_eq_false hb
    have h2 := of_decide_eq_false hb2
    rw [kitAny_nil]
    simp [h1, h2]) (fun hb2 => by simp [of_decide_eq_true hb2])) (fun hb => by simp [of_decide_eq_true hb])
theorem i_isSeq (g : Cxt P w K mg base k N X sc) (F : Fct P w K mg base W G E cs k) {a : Ex} {b : Expr} {pf p1 p2 pt pos : Pos} {j : Nat} (hi : ("isinstance" : Str) ∈ E.free) (hg : globB sc "isinstance" = true) (hT : ("list" : Str) ∈ E.free) (hgT : globB sc "list" = true) (hU : ("tuple" : Str) ∈ E.free) (hgU : globB sc "tuple" = true) (hs : notStar b = true)
    (ha : PE X b (tI W K G cs a)) : PE X (.Call (.Name "isinstance" pf) [b, .Tuple [.Name "list" p1, .Name "tuple" p2] j pt] [] pos) (tI W K G cs (.un .isSeq a)) := by
  have hm : ∀ {y : Str}, y ∈ E.free → X.mg y = none := fun {y} hy => by rw [g.mm]; exact F.free y hy
  have hk' := g.kk
  subst hk'
  have hT2 : PE X (.Tuple [.Name "list" p1, .Name "tuple" p2] j pt) (tTup (tCons (tC (.ty "list")) (tCons (tC (.ty "tuple")) tNil))) := pe_tup (pa_cons (pe_bltn (v := .ty "list") (u := .type "list") (g.glob _ hgT) (hm hT) (by decide +kernel) rfl) (pa_cons (pe_bltn (v := .ty "tuple") (u := .type "tuple") (g.glob _ hgU) (hm hU) (by decide +kernel) rfl) pa_nil))
  refine (pe_callB call_isiT (g.glob _ hg) (hm hi) (by decide +kernel) (pa_cons ha (pa_cons hT2 pa_nil) (star_cons hs)) (by decide) (by decide) (star_cons hs) rfl).imp fun σ H Q h => ?_
  obtain ⟨ρ, s, h, d, h', rs, S, e, q⟩ := isb_in (f := fun t => decide (t = .lst ∨ t = .tup)) (fun x h => rfl) h
  refine ⟨ρ, s, h, d, h', rs, S, e, fun ρ1 H1 p1 k1 S1 v r => ⟨by show 2 ≤ sizeLine; decide, fun p hp => ?_⟩⟩
  have S2 := S1.ext (p := p) (u := .tup [.ty "list", .ty "tuple"]) hp
  have kn : Keep X.K H1 (upd H1 p (.tup [.ty "list", .ty "tuple"])) := Keep.new hp
  obtain ⟨t, ty, q2⟩ := q ρ1 _ p1 (k1.trans kn) S2 v (RelI.mono (List.prefix_refl _) kn _ _ r)
  exact ⟨v, p, [.ty "list", .ty "tuple"], _, [.type "list", .type "tuple"], _, rfl, upd_same, .cons (.ty _) (.cons (.ty _) .nil), ty, kit_seq t, q2⟩
theorem i_isCls (g : Cxt P w K mg base k N X sc) (F : Fct P w K mg base W G E cs k) {a : Ex} {c : Nat} {b : Expr} {pf pt pos : Pos} (hi : ("isinstance" : Str) ∈ E.free) (hg : globB sc "isinstance" = true) (hc : c ∈ E.isc) (hgT : globB sc (E.cnm c) = true) (hd : dbgB (E.cnm c) = true) (hs : notStar b = true)
    (ha : PE X b (tI W K G cs a)) : PE X (.Call (.Name "isinstance" pf) [b, .Name (E.cnm c) pt] [] pos) (tI W K G cs (.un (.isCls c) a)) := by
  have hm : ∀ {y : Str}, y ∈ E.free → X.mg y = none := fun {y} hy => by rw [g.mm]; exact F.free y hy
  obtain ⟨e1, IC⟩ := F.isc c hc
  have hk' := g.kk
  subst hk'
  refine (pe_callB call_isi (g.glob _ hg) (hm hi) (by decide +kernel) (pa_cons ha (pa_cons (pe_glob (v := .ref (W.cl c)) (g.glob _ hgT) (by rw [g.mm]; exact e1) rfl (dbg_of hd).1) pa_nil) (star_cons hs)) (by decide) (by decide) (star_cons hs) rfl).imp fun σ H Q h => ?_
  obtain ⟨ρ, s, h, d, h', rs, S, e, q⟩ := h
  simp only [ev] at e
  split at e
  · rename_i x h1 e1
    refine ⟨ρ, s, h, x, h1, rs, S, e1, fun ρ1 H1 p1 k1 S1 v r => ?_⟩
    simp only [prim1] at e
    split at e
    · rename_i t et
      cases e
      refine ⟨v, .ref (W.cl c), _, _, false, rfl, .own _, tyx_of S1 et r, ?_, q ρ1 H1 p1 k1 S1 _ rfl⟩
      have h0 := List.all_eq_true.mp IC.no (tyN t) (by cases t <;> simp [tyN])
      exact eq_of_beq h0
    · split at e
      · rename_i n
        split at e
        · rename_i _ c' fs e2
          split at e
          · rename_i ec
            subst ec
            cases e
            obtain ⟨a, rfl, ea⟩ := r
            obtain ⟨dx, ys, q1, _⟩ := S1.at_ _ _ a e2 ea
            exact ⟨.ref a, .ref (W.cl c'), _, _, true, rfl, .own _, .base (.ins q1 IC.cls IC.ha IC.hn IC.htk IC.hm), IC.self, q ρ1 H1 p1 k1 S1 _ rfl⟩
          · cases e
        · cases e
      · cases e
  · cases e
/-! ### slices -/
def tPartN (t : TE) : TO := fun σ H Q => t σ H fun x H1 => (∃ i, x = .int i ∧ Q (some i) H1) ∨ (x = .non ∧ Q none H1)
theorem po_someN {e : Expr} {te : TE} (h : PE X e te) : PO X (some e) (tPartN te) := by
  refine ⟨fun pins s σ H Q I hw => ?_⟩
  rw [evalPart_some]
  refine thn (h.run pins s σ H _ I hw) fun u s1 ⟨x, H1, I1, r1, q1⟩ => ?_
  rcases q1 with ⟨i, rfl, q⟩ | ⟨rfl, q⟩
  · obtain ⟨t, rfl⟩ := r1
    exact ⟨some i, H1, I1, .int i t, q⟩
  · cases r1
    exact ⟨none, H1, I1, .none, q⟩
theorem cut_rel {ρ : List Addr} {H : Hp} {xs : List D} {ys : List V} (r : RelIs W K ρ H xs ys) (lo hi : Option Int) : RelIs W K ρ H (cutD xs lo hi) (cutV ys lo hi) := by
  unfold cutD cutV
  rw [r.length]
  exact (r.drop _).take _
theorem sl_fin (hk : X.K = K) {ρ : List Addr} {h h' : Hh} {H : Hp} {x l u d : D} {lo hi : Option Int} {v : V} {Q : VK} (S : Sim W K ρ h H) (rx : RelI W K ρ H x v) (el : partOf l = some lo) (eu : partOf u = some hi) (e : slD x l u h = some (d, h')) (q : RetD W K ρ H d h' Q) :
    rSlL X.K v lo hi H Q ∨ rSlA X.K v lo hi H Q := by
  subst hk
  simp only [slD, el, eu] at e
  split at e
  · rename_i xs
    cases e
    obtain ⟨a, ys, rfl, q1, r⟩ := rx
    refine .inr ⟨a, ys, rfl, q1, fun hw => ?_, fun hw => ?_⟩
    · refine q.here S ⟨a, ys, rfl, q1, ?_⟩
      have := cut_rel r lo hi
      have e2 : cutV ys lo hi = ys := by
        unfold cutV
        rw [hw.1, hw.2, List.drop_zero, Nat.sub_zero, List.take_length]
      rw [e2] at this
      exact this
    · exact q.newT S (cut_rel r lo hi)
  · cases e
    obtain ⟨a, ys, rfl, q1, r⟩ := rx
    exact .inl ⟨a, ys, rfl, q1.sq, q.newL S (cut_rel r lo hi)⟩
  · rename_i n
    obtain ⟨a, rfl, ea⟩ := rx
    split at e
    · rename_i xs e2
      cases e
      obtain ⟨ys, q1, r⟩ := S.lst e2 ea
      exact .inl ⟨a, ys, rfl, SqL.of q1, q.newL S (cut_rel r lo hi)⟩
    · cases e
  · cases e
theorem part_v {ρ : List Addr} {H : Hp} {d : D} {v : V} {o : Option Int} (e : partOf d = some o) (r : RelI W K ρ H d v) : (∃ i, v = .int i ∧ o = some i) ∨ (v = .non ∧ o = none) := by
  cases d with
  | int i => cases e; obtain rfl : v = _ := r; exact .inl ⟨i, rfl, rfl⟩
  | non => cases e; obtain rfl : v = _ := r; exact .inr ⟨rfl, rfl⟩
  | _ => simp [partOf] at e
theorem sl_parts {x l u : D} {h : Hh} {r : D × Hh} (e : slD x l u h = some r) : ∃ lo hi, partOf l = some lo ∧ partOf u = some hi := by
  unfold slD at e
  split at e
  · exact ⟨_, _, by assumption, by assumption⟩
  · cases e
theorem i_sl (g : Cxt P w K mg base k N X sc) {a lo hi : Ex} {x : Expr} {l u : Option Expr} {p2 pos : Pos} (ha : PE X x (tI W K G cs a))
    (hl : (l = none ∧ lo = .con .non) ∨ ∃ l', l = some l' ∧ PE X l' (tI W K G cs lo)) (hu : (u = none ∧ hi = .con .non) ∨ ∃ u', u = some u' ∧ PE X u' (tI W K G cs hi)) : PE X (.Subscript x (.Slice l u none p2) pos) (tI W K G cs (.sl a lo hi)) := by
  have hL : ∃ tl, PO X l tl ∧ ∀ σ H (Q : Option Int → Hp → Prop) ρ s h d h' o, RelS W K ρ H s σ → Sim W K ρ h H → ev G cs lo s h = some (d, h') → partOf d = some o → (Nxt W K ρ H h' fun _ H' => Q o H') → tl σ H Q := by
    rcases hl with ⟨rfl, rfl⟩ | ⟨l', rfl, h⟩
    · refine ⟨tNoPart, po_none, fun σ H Q ρ s h d h' o rs S e1 e2 q => ?_⟩
      simp only [ev] at e1
      cases e1
      cases e2
      exact q ρ H (List.prefix_refl _) Keep.refl S
    · refine ⟨_, po_someN h, fun σ H Q ρ s h d h' o rs S e1 e2 q => ⟨ρ, s, h, d, h', rs, S, e1, fun ρ1 H1 p1 k1 S1 v r => ?_⟩⟩
      rcases part_v e2 r with ⟨i, rfl, rfl⟩ | ⟨rfl, rfl⟩
      · exact .inl ⟨i, rfl, q ρ1 H1 p1 k1 S1⟩
      · exact .inr ⟨rfl, q ρ1 H1 p1 k1 S1⟩
  have hU : ∃ tl, PO X u tl ∧ ∀ σ H (Q : Option Int → Hp → Prop) ρ s h d h' o, RelS W K ρ H s σ → Sim W K ρ h H → ev G cs hi s h = some (d, h') → partOf d = some o → (Nxt W K ρ H h' fun _ H' => Q o H') → tl σ H Q := by
    rcases hu with ⟨rfl, rfl⟩ | ⟨l', rfl, h⟩
    · refine ⟨tNoPart, po_none, fun σ H Q ρ s h d h' o rs S e1 e2 q => ?_⟩
      simp only [ev] at e1
      cases e1
      cases e2
      exact q ρ H (List.prefix_refl _) Keep.refl S
    · refine ⟨_, po_someN h, fun σ H Q ρ s h d h' o rs S e1 e2 q => ⟨ρ, s, h, d, h', rs, S, e1, fun ρ1 H1 p1 k1 S1 v r => ?_⟩⟩
      rcases part_v e2 r with ⟨i, rfl, rfl⟩ | ⟨rfl, rfl⟩
      · exact .inl ⟨i, rfl, q ρ1 H1 p1 k1 S1⟩
      · exact .inr ⟨rfl, q ρ1 H1 p1 k1 S1⟩
  obtain ⟨tl, L1, L2⟩ := hL
  obtain ⟨tu, U1, U2⟩ := hU
  refine (pe_slice (SlR.or sl_list sl_tupA) ha L1 U1).imp fun σ H Q h => ?_
  obtain ⟨ρ, s, h, d, h', rs, S, e, q⟩ := h
  simp only [ev] at e
  split at e
  · rename_i x h1 e1
    split at e
    · rename_i dl h2 e2
      split at e
      · rename_i du h3 e3
        obtain ⟨lo', hi', pl, pu⟩ := sl_parts e
        refine ⟨ρ, s, h, x, h1, rs, S, e1, fun ρ1 H1 p1 k1 S1 v r => ?_⟩
        refine L2 _ _ _ ρ1 s h1 dl h2 lo' (rs.mono p1 k1) S1 e2 pl fun ρ2 H2 p2 k2 S2 => ?_
        refine U2 _ _ _ ρ2 s h2 du h3 hi' (rs.mono (p1.trans p2) (k1.trans k2)) S2 e3 pu fun ρ3 H3 p3 k3 S3 => ?_
        exact sl_fin g.kk S3 (RelI.mono (p2.trans p3) (k2.trans k3) _ _ r) pl pu e (q.mono ((p1.trans p2).trans p3) ((k1.trans k2).trans k3))
      · cases e
    · cases e
  · cases e
/-! ### {k: v, ..} -/
def trsOf : List Key → List TE → List (TE × TE)
  | k :: ks, t :: ts => (tC (kV k), t) :: trsOf ks ts
  | _, _ => []
def noStarE : Exs → Bool
  | .nil => true
  | .cons _ es => noStarE es
  | .star _ _ => false
def tesOf (W : Pl) (K : PySem.W.Frag) (G : GEnv) (cs : CS) : Exs → List TE
  | .nil => []
  | .cons e es => tI W K G cs e :: tesOf W K G cs es
  | .star _ _ => []
theorem pairs_in : ∀ (es : Exs) (ks : List Key) (hn : noStarE es = true) {ρ : List Addr} {s : Sl} {σ : L2.St} {h h' : Hh} {H : Hp} {ds : List D} {Q : List (V × V) → Hp → Prop}, ds.length = ks.length → RelS W K ρ H s σ → Sim W K ρ h H → evs G cs es s h = some (ds, h') →
    (Nxt W K ρ H h' fun ρ' H' => ∀ kvs : List (Key × V), RelK W K ρ' H' (ks.zip ds) kvs → Q (kvs.map fun kv => (kV kv.1, kv.2)) H') → tPairs (trsOf ks (tesOf W K G cs es)) σ H Q
  | .nil, [], hn, ρ, s, σ, h, h', H, ds, Q, hl, rs, S, e, q => by
    simp only [evs] at e
    cases e
    exact q ρ H (List.prefix_refl _) Keep.refl S [] rfl
  | .nil, k :: ks, hn, ρ, s, σ, h, h', H, ds, Q, hl, rs, S, e, q => by
    simp only [evs] at e
    cases e
    simp at hl
  | .star a as, ks, hn, ρ, s, σ, h, h', H, ds, Q, hl, rs, S, e, q => by simp [noStarE] at hn
  | .cons a as, [], hn, ρ, s, σ, h, h', H, ds, Q, hl, rs, S, e, q => by
    have : ds = [] := List.length_eq_zero_iff.mp hl
    subst this
    simp only [evs] at e
    split at e
    · split at e
      · cases e
      · cases e
    · cases e
  | .cons a as, k :: ks, hn, ρ, s, σ, h, h', H, ds, Q, hl, rs, S, e, q => by
    simp only [evs] at e
    split at e
    · rename_i d h1 e1
      split at e
      · rename_i ds' h2 e2
        cases e
        refine ⟨ρ, s, h, d, h1, rs, S, e1, fun ρ1 H1 p1 k1 S1 v r => ?_⟩
        refine pairs_in as ks (by simpa [noStarE] using hn) (by simpa using hl) (rs.mono p1 k1) S1 e2 fun ρ2 H2 p2 k2 S2 kvs rk => ?_
        exact q ρ2 H2 (p1.trans p2) (k1.trans k2) S2 ((k, v) :: kvs) ⟨v, kvs, rfl, RelI.mono p2 k2 _ _ r, rk⟩
      · cases e
    · cases e
theorem merge_rel {ρ : List Addr} {H : Hp} : ∀ {more : List (Key × D)} {mv : List (Key × V)} {acc : List (Key × D)} {av : List (Key × V)}, RelK W K ρ H more mv → RelK W K ρ H acc av → RelK W K ρ H (more.foldl (fun acc kv => kput kv.1 kv.2 acc) acc) (mergeK av mv)
  | [], mv, acc, av, h, h' => by cases h; exact h'
  | (k, d) :: r, mv, acc, av, h, h' => by
    obtain ⟨v, vr, rfl, r1, r2⟩ := h
    exact merge_rel (more := r) (mv := vr) (acc := kput k d acc) (av := putK av k v) r2 (h'.put r1)
theorem i_dic {ks : List Key} {es : Exs} {keys : List (Option Expr)} {vals : List Expr} {pos : Pos} (hn : noStarE es = true) (h : PPs X pos keys vals (trsOf ks (tesOf W K G cs es))) (hall : keys.all (·.isSome) = true) (hl : keys.length = vals.length) (h0 : keys ≠ []) (h15 : keys.length ≤ 15) :
    PE X (.Dict keys vals pos) (tI W K G cs (.dic ks es)) := (pe_disp h hall hl h0 h15).imp fun σ H Q h => by
  obtain ⟨ρ, s, h, d, h', rs, S, e, q⟩ := h
  simp only [ev] at e
  split at e
  · rename_i ds h2 e1
    split at e
    · rename_i e2
      split at e
      · rename_i hl
        cases e
        intro p hp
        have S1 : Sim W K (ρ ++ [p]) (h ++ [.dK []]) (upd H p (.dK [])) := S.alloc hp ⟨[], upd_same, rfl⟩
        have hat : (ρ ++ [p])[h.length]? = some p := by rw [← S.len]; exact app_at
        refine pairs_in es ks hn hl.1.symm (rs.mono pre_app (Keep.new hp)) S1 e1 fun ρ2 H2 p2 k2 S2 kvs rk => ?_
        have ea := pre_get p2 hat
        obtain ⟨ys, q1, r0⟩ := S2.dK e2 ea
        cases r0
        have kp : Keep K H2 (upd H2 p (.dK (mergeK [] kvs))) := Keep.mut q1 trivial
        refine ⟨q1, kvs, rfl, ?_, ?_⟩
        · rw [← rk.length, List.length_zip]
          omega
        · refine q ρ2 _ (pre_app.trans p2) ((Keep.new hp).trans (k2.trans kp)) (S2.set ea q1 trivial ⟨_, upd_same, ?_⟩) _ ⟨p, rfl, ea⟩
          exact RelK.mono (List.prefix_refl _) kp _ _ (merge_rel rk (acc := []) (av := []) rfl)
      · cases e
    · cases e
  · cases e
/-! ### tests joined -/
theorem w_and {a b : Ts} {x y : Expr} {r : List Expr} {pos : Pos} (ha : PT X x (tTT W K G cs a)) (hb : PW X (.BoolOp .And (y :: r) pos) (tTT W K G cs b)) : PW X (.BoolOp .And (x :: y :: r) pos) (tTT W K G cs (.and a b)) := (pw_and ha hb).imp fun σ H Q h => and_in h
theorem w_or {a b : Ts} {x y : Expr} {r : List Expr} {pos : Pos} (ha : PT X x (tTT W K G cs a)) (hb : PW X (.BoolOp .Or (y :: r) pos) (tTT W K G cs b)) : PW X (.BoolOp .Or (x :: y :: r) pos) (tTT W K G cs (.or a b)) := (pw_or ha hb).imp fun σ H Q h => or_in h
/-! ### t[::-1], min(.., default=..) -/
theorem i_rev (g : Cxt P w K mg base k N X sc) {a : Ex} {x : Expr} {j : Nat} {p1 p2 p3 pos : Pos} (ha : PE X x (tI W K G cs a)) : PE X (.Subscript x (.Slice none none (some (.UnaryOp .USub (.Constant (.int 1) j p1) p2)) p3) pos) (tI W K G cs (.un .rev a)) :=
  (pe_revT ha).imp fun σ H Q h => by
    obtain ⟨ρ, s, h, d, h', rs, S, e, q⟩ := h
    simp only [ev] at e
    split at e
    · rename_i x h1 e1
      simp only [prim1] at e
      split at e
      · rename_i xs
        cases e
        refine ⟨ρ, s, h, _, _, rs, S, e1, fun ρ1 H1 p1 k1 S1 v r => ?_⟩
        obtain ⟨b, ys, rfl, q1, rl⟩ := r
        exact ⟨b, ys, rfl, by rw [g.kk]; exact q1, (q.mono p1 k1).newT S1 rl.reverse⟩
      · cases e
    · cases e
theorem i_minD (g : Cxt P w K mg base k N X sc) (F : Fct P w K mg base W G E cs k) {a b : Ex} {x v : Expr} {pp kp pos : Pos} (hf : ("min" : Str) ∈ E.free) (hg : globB sc "min" = true) (hs : notStar x = true) (ha : PE X x (tI W K G cs a)) (hb : PE X v (tI W K G cs b)) :
    PE X (.Call (.Name "min" pp) [x] [⟨some "default", v, kp⟩] pos) (tI W K G cs (.app .minD (.cons a (.cons b .nil)))) := by
  have hm : X.mg "min" = none := by rw [g.mm]; exact F.free _ hf
  have hk' := g.kk
  subst hk'
  refine (pe_callBK (z_minD (W := W) (G := G) g.calm g.units) (g.glob _ hg) hm (by decide +kernel) (pa_cons ha pa_nil (star_cons hs)) (pk_cons hb pk_nil) (by decide) (by decide) (by rw [star_cons hs]; rfl) (by rw [star_cons hs]; rfl) rfl rfl rfl).imp fun σ H Q h => ?_
  obtain ⟨ρ, s, h, d, h', rs, S, e, q⟩ := h
  simp only [ev] at e
  split at e
  · rename_i ds h1 e1
    simp only [evs] at e1
    split at e1
    · rename_i d1 h2 e2
      split at e1
      · rename_i ds1 h3 e3
        split at e3
        · rename_i d2 h4 e4
          cases e3
          cases e1
          refine ⟨ρ, s, h, d1, h2, rs, S, e2, fun ρ1 H1 p1 k1 S1 v1 r1 => ⟨ρ1, s, h2, d2, _, rs.mono p1 k1, S1, e4, fun ρ2 H2 p2 k2 S2 v2 r2 => ?_⟩⟩
          exact ⟨v1, v2, rfl, rfl, ρ2, _, [d1, d2], d, h', S2, ⟨v1, _, rfl, RelI.mono p2 k2 _ _ r1, v2, _, rfl, r2, rfl⟩, e, q.mono (p1.trans p2) (k1.trans k2)⟩
        · cases e3
      · cases e1
    · cases e1
  · cases e
/-! ### a comprehension of two walks -/
theorem lc2_in {it it2 : It} {t t2 : Tg} {a : Ex} {own own2 : List Nat} (hw : tgIn own t = true) (hw2 : tgIn own2 t2 = true) {σ : L2.St} {H : Hp} {Q : VK} (h : tI W K G cs (.lc2 it t it2 t2 a own own2) σ H Q) :
    tLc2 (tIt W K G cs it) (tTg W K G cs t) (tTT W K G cs .yes) (tIt W K G cs it2) (tTg W K G cs t2) (tTT W K G cs .yes) (tI W K G cs a) own own2 σ H Q := by
  obtain ⟨ρ, s, h, d, hE, rs, S, e, q⟩ := h
  simp only [ev] at e
  split at e
  · rename_i xs gd h1 e1
    split at e
    · rename_i h2 e2
      cases e
      refine ⟨ρ, s, h, xs, gd, h1, rs, S, e1, fun ρ1 H1 p1 k1 S1 J wk Dl hD => ?_⟩
      have rs1 := rs.mono p1 k1
      have S2 : Sim W K (ρ1 ++ [Dl]) (h1 ++ [.lst []]) (upd H1 Dl (.lst [])) := S1.alloc hD ⟨[], upd_same, rfl⟩
      have hat : (ρ1 ++ [Dl])[h1.length]? = some Dl := by rw [← S1.len]; exact app_at
      refine ⟨fun i m H' => m = xs.length - i ∧ i ≤ xs.length ∧ ∃ ρ' h', (ρ1 ++ [Dl]) <+: ρ' ∧ Keep K (upd H1 Dl (.lst [])) H' ∧ Sim W K ρ' h' H' ∧ lcO (fun x h => match st G cs t x (wipeD s own) h with
        | some (s2, h2) => match evI G cs it2 s2 h2 with
          | some (ys, g2, h3) => lcGo (fun y h => match st G cs t2 y (wipeD s2 own2) h with
              | some (s4, h4) => match ev G cs a s4 h4 with
                | some (z, h5) => some (some z, h5)
                | none => none
              | none => none) g2 h1.length ys h3
          | none => none
        | none => none) gd (xs.drop i) h' = some hE, ⟨xs.length, by simp, Nat.zero_le _, ρ1 ++ [Dl], _, List.prefix_refl _, Keep.refl, S2, e2⟩, ?_⟩
      rintro i m H' ⟨rfl, hle, ρ', h', p', k', S', e'⟩
      have p0 : ρ1 <+: ρ' := pre_app.trans p'
      have k0 : Keep K H1 H' := (Keep.new hD).trans k'
      by_cases hlt : i < xs.length
      · refine .inr ?_
        rw [drop_at hlt] at e'
        simp only [lcO] at e'
        split at e'
        · rename_i hgk
          obtain ⟨go, yl⟩ := wk.go i H' ρ' h' hlt p0 k0 S' hgk
          refine ⟨go, fun H3 => ∃ ρ3 h3, (ρ1 ++ [Dl]) <+: ρ3 ∧ Keep K (upd H1 Dl (.lst [])) H3 ∧ Sim W K ρ3 h3 H3 ∧ lcO _ gd (xs.drop (i + 1)) h3 = some hE, fun H3 ⟨ρ3, h3, z1, z2, z3, z4⟩ => ⟨xs.length - (i + 1), by omega, rfl, hlt, ρ3, h3, z1, z2, z3, z4⟩, fun x H4 hy => ?_⟩
          obtain ⟨k4, S4, dd, ed, rd⟩ := yl x H4 hy
          rw [List.getElem?_eq_getElem hlt] at ed
          cases ed
          have rw4 : RelS W K ρ' H4 (wipeD s own) (L2.wipe σ own) := (rs1.mono p0 (k0.trans k4)).wipe own
          split at e'
          · rename_i h5 e5
            split at e5
            · rename_i s2 h6 e6
              refine ⟨ρ', _, h', xs[i], s2, h6, rw4, S4, rd, e6, fun ρ5 H5 p5 k5 S5 σ5 rs5 w5 => ⟨by rw [w5 own hw, wipe_wipe], ?_⟩⟩
              refine ⟨ρ5, s2, h6, true, h6, rs5, S5, rfl, fun ρ6 H6 p6 k6 S6 => iteT ?_⟩
              split at e5
              · rename_i ys g2 h7 e7
                refine ⟨ρ6, s2, h6, ys, g2, h7, rs5.mono p6 k6, S6, e7, fun ρ7 H7 p7 k7 S7 J1 wk1 => ?_⟩
                have pA : (ρ1 ++ [Dl]) <+: ρ7 := ((p'.trans p5).trans p6).trans p7
                have kA : Keep K (upd H1 Dl (.lst [])) H7 := (((k'.trans k4).trans k5).trans k6).trans k7
                have rs7 : RelS W K ρ7 H7 s2 σ5 := rs5.mono (p6.trans p7) (k6.trans k7)
                refine ⟨fun j m H' => m = ys.length - j ∧ j ≤ ys.length ∧ ∃ ρ' h', ρ7 <+: ρ' ∧ Keep K H7 H' ∧ Sim W K ρ' h' H' ∧ lcGo (fun y h => match st G cs t2 y (wipeD s2 own2) h with
                  | some (s4, h4) => match ev G cs a s4 h4 with
                    | some (z, h5) => some (some z, h5)
                    | none => none
                  | none => none) g2 h1.length (ys.drop j) h' = some h5, ⟨ys.length, by simp, Nat.zero_le _, ρ7, h7, List.prefix_refl _, Keep.refl, S7, e5⟩, ?_⟩
                rintro j m H8 ⟨rfl, hle8, ρ8, h8, p8, k8, S8, e8⟩
                by_cases hlt8 : j < ys.length
                · refine .inr ?_
                  rw [drop_at hlt8] at e8
                  simp only [lcGo] at e8
                  split at e8
                  · rename_i hgk8
                    obtain ⟨go8, yl8⟩ := wk1.go j H8 ρ8 h8 hlt8 p8 k8 S8 hgk8
                    refine ⟨go8, fun H3 => ∃ ρ3 h3, ρ7 <+: ρ3 ∧ Keep K H7 H3 ∧ Sim W K ρ3 h3 H3 ∧ lcGo _ g2 h1.length (ys.drop (j + 1)) h3 = some h5, fun H3 ⟨ρ3, h3, z1, z2, z3, z4⟩ => ⟨ys.length - (j + 1), by omega, rfl, hlt8, ρ3, h3, z1, z2, z3, z4⟩, fun x1 H9 hy9 => ?_⟩
                    obtain ⟨k9, S9, dd9, ed9, rd9⟩ := yl8 x1 H9 hy9
                    rw [List.getElem?_eq_getElem hlt8] at ed9
                    cases ed9
                    have rw9 : RelS W K ρ8 H9 (wipeD s2 own2) (L2.wipe σ5 own2) := (rs7.mono p8 (k8.trans k9)).wipe own2
                    split at e8
                    · rename_i y hA eA
                      split at eA
                      · rename_i s4 h4 eB
                        refine ⟨ρ8, _, h8, ys[j], s4, h4, rw9, S9, rd9, eB, fun ρB HB pB kB SB σB rsB wB => ⟨by rw [wB own2 hw2, wipe_wipe], ?_⟩⟩
                        refine ⟨ρB, s4, h4, true, h4, rsB, SB, rfl, fun ρC HC pC kC SC => iteT ?_⟩
                        split at eA
                        · rename_i z hC eC
                          cases eA
                          refine ⟨ρC, s4, h4, y, hA, rsB.mono pC kC, SC, eC, fun ρD HD pD kD SD v rv => ?_⟩
                          split at e8
                          · rename_i acc e9
                            split at e8
                            · rename_i hl
                              have pZ : ρ7 <+: ρD := ((p8.trans pB).trans pC).trans pD
                              have kZ : Keep K H7 HD := (((k8.trans k9).trans kB).trans kC).trans kD
                              have hatD := pre_get (pA.trans pZ) hat
                              obtain ⟨yy, q1, rl⟩ := SD.lst e9 hatD
                              have kp : Keep K HD (upd HD Dl (.lst (yy ++ [v]))) := Keep.mut q1 trivial
                              refine ⟨yy, q1, by rw [← rl.length]; exact line_lt hl, ρD, _, pZ, kZ.trans kp, SD.set (o := .lst (acc ++ [y])) hatD q1 trivial ⟨_, upd_same, ?_⟩, e8⟩
                              exact RelIs.mono (List.prefix_refl _) kp _ _ (rl.append ⟨v, [], rfl, rv, rfl⟩)
                            · cases e8
                          · cases e8
                        · cases eA
                      · cases eA
                    · rename_i hA eA
                      split at eA
                      · split at eA
                        · cases eA
                        · cases eA
                      · cases eA
                    · cases e8
                  · cases e8
                · have hi2 : j = ys.length := by omega
                  subst hi2
                  rw [List.drop_length] at e8
                  simp only [lcGo] at e8
                  split at e8
                  · rename_i hgk8
                    cases e8
                    exact .inl ⟨wk1.stop H8 ρ8 _ p8 k8 S8 hgk8, ρ8, _, pA.trans p8, kA.trans k8, S8, e'⟩
                  · cases e8
              · cases e5
            · cases e5
          · cases e'
        · cases e'
      · have hi2 : i = xs.length := by omega
        subst hi2
        rw [List.drop_length] at e'
        simp only [lcO] at e'
        split at e'
        · rename_i hgk
          cases e'
          refine .inl ⟨wk.stop H' ρ' _ p0 k0 S' hgk, ?_⟩
          exact q ρ' H' (p1.trans p0) (k1.trans k0) S' _ ⟨Dl, rfl, pre_get p' hat⟩
        · cases e'
    · cases e
  · cases e
theorem yes_pts {Y : Cx} : PTs Y [] (tTT W K G cs .yes) := ⟨fun pins s σ H Q I q => pts_nil.run pins s σ H Q I (by
  obtain ⟨ρ, s, h, b, h', rs, S, e, k⟩ := q
  simp only [evT] at e
  cases e
  exact k ρ H (List.prefix_refl _) Keep.refl S)⟩
end
end Z
end

-- ZH
section
set_option Elab.async false
set_option linter.all false
set_option maxRecDepth 100000
set_option maxHeartbeats 4000000
/-! All expressions. -/
namespace Z
open PySem L2 PySem.Spec PyProof.Rows
theorem look_rel {env : Env} : ∀ {names : List (Str × NameKind)} {x : Str} {k : NameKind}, names.lookup x = some k →
    (names.map fun (n, k) => if (k == NameKind.free && env.scope.kind == .function && env.kindOf n == some .cell) then (n, NameKind.cell) else (n, k)).lookup x = some k ∨
    (k = .free ∧ (names.map fun (n, k) => if (k == NameKind.free && env.scope.kind == .function && env.kindOf n == some .cell) then (n, NameKind.cell) else (n, k)).lookup x = some .cell)
  | [], x, k, h => by simp at h
  | (n, k0) :: r, x, k, h => by
    have ih := @look_rel env r x k
    show List.lookup x ((if (k0 == NameKind.free && env.scope.kind == .function && env.kindOf n == some .cell) = true then (n, NameKind.cell) else (n, k0)) :: _) = some k ∨ (k = .free ∧ List.lookup x ((if (k0 == NameKind.free && env.scope.kind == .function && env.kindOf n == some .cell) = true then (n, NameKind.cell) else (n, k0)) :: _) = some .cell)
    cases hx : x == n with
    | true =>
      simp only [List.lookup_cons, hx] at h
      have h' : k0 = k := Option.some.inj h
      subst h'
      by_cases hc : (k0 == NameKind.free && env.scope.kind == .function && env.kindOf n == some .cell) = true
      · right
        rw [if_pos hc]
        simp only [List.lookup_cons, hx]
        simp only [Bool.and_eq_true, beq_iff_eq] at hc
        exact ⟨hc.1.1, trivial⟩
      · left
        rw [if_neg hc]
        simp only [List.lookup_cons, hx]
    | false =>
      simp only [List.lookup_cons, hx] at h
      by_cases hc : (k0 == NameKind.free && env.scope.kind == .function && env.kindOf n == some .cell) = true
      · rw [if_pos hc]
        simp only [List.lookup_cons, hx]
        exact ih h
      · rw [if_neg hc]
        simp only [List.lookup_cons, hx]
        exact ih h
section
variable {P : Program} {w : World} {K : PySem.W.Frag} {mg : Str → Option Value} {base : Heap} {W : Pl} {G : GEnv} {E : CkE} {cs : CS} {k : Nat} {N : List Str} {X : Cx} {sc scope : Scope} {own : List (Str × Nat)}
theorem blk_ok (g : Cxt P w K mg base k N X sc) (h : blkC N sc scope own = true) : BlkOk X.N X.env.scope scope own := by
  rw [g.nn]
  unfold blkC at h
  simp only [Bool.and_eq_true, List.all_eq_true, decide_eq_true_eq] at h
  obtain ⟨⟨⟨h1, h2⟩, h3⟩, h4⟩ := h
  refine ⟨?_, h2, h3, fun y hy e => ?_, fun y hy e => ?_⟩
  · split at h1
    · assumption
    · cases h1
  · have q := h4 y hy
    simp only [e] at q
    refine g.fre y.1 ?_
    unfold freB
    split at q <;> simp_all
  · have q := h4 y hy
    rcases e with e | e <;> (simp only [e, Bool.or_eq_true, decide_eq_true_eq] at q; exact q)
theorem cxt_blk (g : Cxt P w K mg base k N X sc) (h : blkC N sc scope own = true) (s : Shared) (H : Hp) (C : Addr) (cl : List (Str × Addr)) (fp : List Addr) : Cxt P w K mg base k N (X.blk s H scope (compEnvC scope cl C X.env) fp) scope where
  prog := g.prog
  wo := g.wo
  kk := g.kk
  mm := g.mm
  ba := g.ba
  nn := g.nn
  nd := g.nd
  calm := g.calm
  room := g.room
  kind := (blk_ok g h).kind
  vis := fun x hx => by
    unfold visB at hx
    split at hx
    · rename_i e
      rcases look_rel (env := X.env) e with z | ⟨z, _⟩
      · exact .inl z
      · cases z
    · rename_i e
      rcases look_rel (env := X.env) e with z | ⟨z, _⟩
      · exact .inr (.inl z)
      · cases z
    · rename_i e
      rcases look_rel (env := X.env) e with z | ⟨_, z⟩
      · exact .inr (.inr z)
      · exact .inr (.inl z)
    · cases hx
  loc := fun x hx => by
    unfold locB at hx
    split at hx
    · rename_i e
      rcases look_rel (env := X.env) e with z | ⟨z, _⟩
      · exact ⟨.inl z, .inr z⟩
      · cases z
    · rename_i e
      rcases look_rel (env := X.env) e with z | ⟨z, _⟩
      · exact ⟨.inr z, .inl (by show (scope.names.lookup x == some .cell) = true; rw [e]; rfl)⟩
      · cases z
    · cases hx
  fre := fun x hx => by
    unfold freB at hx
    split at hx
    · rename_i e
      rcases look_rel (env := X.env) e with z | ⟨z, _⟩
      · exact .inl z
      · cases z
    · rename_i e
      rcases look_rel (env := X.env) e with z | ⟨_, z⟩
      · exact .inr z
      · exact .inl z
    · cases hx
  glob := fun x hx => by
    unfold globB at hx
    split at hx
    · rename_i e
      rcases look_rel (env := X.env) e with z | ⟨z, _⟩
      · exact z
      · cases z
    · cases hx
theorem sts_len : ∀ (ts : Tgs) (es : List Expr) (ds : List D) (s : Sl) (h : Hh) (r : Sl × Hh), ckGs E N sc ts es = true → sts G cs ts ds s h = some r → ds.length = es.length
  | .nil, [], ds, s, h, r, e1, e2 => by
    cases ds with
    | nil => rfl
    | cons d ds => simp [sts] at e2
  | .nil, x :: xs, ds, s, h, r, e1, e2 => by simp [ckGs] at e1
  | .cons t ts, [], ds, s, h, r, e1, e2 => by simp [ckGs] at e1
  | .cons t ts, x :: xs, ds, s, h, r, e1, e2 => by
    simp only [ckGs, Bool.and_eq_true] at e1
    cases ds with
    | nil => simp [sts] at e2
    | cons d ds =>
      simp only [sts] at e2
      split at e2
      · rename_i s1 h1 q
        have := sts_len ts xs ds s1 h1 r e1.2 e2
        simp [this]
      · cases e2
theorem nil_of {as : Exs} {l : List Expr} (h : ckEs E N sc as l = true) (e : l = []) : as = .nil := by
  subst e
  cases as <;> first | rfl | (simp [ckEs] at h)

theorem key_pe {e : Expr} {k : Key} (h : keyE e = some k) : PE X e (tC (kV k)) := by
  unfold keyE at h
  split at h
  · cases h; exact pe_str
  · cases h; exact pe_int
  · cases h
theorem no_star : ∀ {es : Exs} {l : List Expr}, l.all notStar = true → ckEs E N sc es l = true → noStarE es = true
  | .nil, l, _, _ => rfl
  | .cons e es, [], _, h => by simp [ckEs] at h
  | .cons e es, x :: xs, h1, h => by
    simp only [ckEs, Bool.and_eq_true] at h
    simp only [List.all_cons, Bool.and_eq_true] at h1
    exact no_star (es := es) h1.2 h.2
  | .star e es, [], _, h => by simp [ckEs] at h
  | .star e es, x :: xs, h1, h => by
    simp only [ckEs] at h
    split at h
    · rename_i q
      cases q
      simp [notStar] at h1
    · cases h
theorem keys_some {ks : List Key} : ∀ {keys : List (Option Expr)}, keys.map (fun x => x.map keyE) = ks.map (fun k => some (some k)) → keys.all (·.isSome) = true := by
  induction ks with
  | nil => intro keys h; cases keys with
    | nil => rfl
    | cons x xs => simp at h
  | cons k ks ih => intro keys h; cases keys with
    | nil => rfl
    | cons x xs =>
      simp only [List.map_cons, List.cons.injEq] at h
      cases x with
      | none => simp at h
      | some y => simpa using ih h.2
mutual
theorem sndE (F : Fct P w K mg base W G E cs k) : ∀ (a : Ex) (e : Expr) (sc : Scope) (X : Cx), ckE E N sc a e = true → Cxt P w K mg base k N X sc → PE X e (tI W K G cs a)
  | .var i, e, sc, X, h, g => by
    cases e <;> simp only [ckE, Bool.and_eq_true, decide_eq_true_eq] at h <;> first | (cases h; done) | skip
    exact i_var g h.1.1 h.1.2 h.2
  | .con d, e, sc, X, h, g => by
    simp only [ckE] at h
    split at h
    · split at h
      · rename_i i j
        obtain rfl := of_decide_eq_true h
        exact i_con pe_int fun _ _ => rfl
      · rename_i i j
        obtain rfl := of_decide_eq_true h
        exact i_con pe_bl fun _ _ => rfl
      · rename_i i j
        obtain rfl := of_decide_eq_true h
        exact i_con pe_str fun _ _ => rfl
      · exact i_con pe_non fun _ _ => rfl
      · cases h
    · cases h
  | .glo j, e, sc, X, h, g => by
    cases e <;> simp only [ckE, Bool.and_eq_true, decide_eq_true_eq] at h <;> first | (cases h; done) | skip
    obtain ⟨⟨⟨h1, rfl⟩, h3⟩, h4⟩ := h
    exact i_glo F g h1 h3 h4
  | .tup es, e, sc, X, h, g => by
    cases e <;> simp only [ckE] at h <;> first | (cases h; done) | skip
    exact i_tup (sndEs F es _ sc X h g)
  | .lst es, e, sc, X, h, g => by
    cases e <;> simp only [ckE] at h <;> first | (cases h; done) | skip
    exact i_lst (sndEs F es _ sc X h g)
  | .un p a, e, sc, X, h, g => by
    simp only [ckE] at h
    split at h
    · exact i_neg g (sndE F a _ sc X h g)
    · exact i_isN (sndE F a _ sc X h g)
    · exact i_notN (sndE F a _ sc X h g)
    · exact i_rev g (sndE F a _ sc X h g)
    · simp only [Bool.and_eq_true, decide_eq_true_eq] at h
      obtain ⟨⟨⟨⟨⟨⟨⟨rfl, h2⟩, h3⟩, rfl⟩, h5⟩, h6⟩, h7⟩, h8⟩ := h
      exact i_isInt g F h2 h3 h5 h6 h7 (sndE F a _ sc X h8 g)
    · simp only [Bool.and_eq_true, decide_eq_true_eq] at h
      obtain ⟨⟨⟨⟨⟨⟨⟨rfl, h2⟩, h3⟩, rfl⟩, h5⟩, h6⟩, h7⟩, h8⟩ := h
      exact i_isBool g F h2 h3 h5 h6 h7 (sndE F a _ sc X h8 g)
    · simp only [Bool.and_eq_true, decide_eq_true_eq] at h
      obtain ⟨⟨⟨⟨⟨⟨⟨⟨⟨⟨rfl, h2⟩, h3⟩, rfl⟩, h5⟩, h6⟩, rfl⟩, h8⟩, h9⟩, h10⟩, h11⟩ := h
      exact i_isSeq g F h2 h3 h5 h6 h8 h9 h10 (sndE F a _ sc X h11 g)
    · simp only [Bool.and_eq_true, decide_eq_true_eq] at h
      obtain ⟨⟨⟨⟨⟨⟨⟨⟨rfl, h2⟩, h3⟩, h4⟩, rfl⟩, h6⟩, h7⟩, h8⟩, h9⟩ := h
      exact i_isCls g F h2 h3 h4 h6 h7 h8 (sndE F a _ sc X h9 g)
    · cases h
  | .bin p a b, e, sc, X, h, g => by
    simp only [ckE] at h
    split at h
    · simp only [Bool.and_eq_true, decide_eq_true_eq] at h
      exact i_bin g h.1.1 (sndE F a _ sc X h.1.2 g) (sndE F b _ sc X h.2 g)
    · simp only [Bool.and_eq_true, decide_eq_true_eq, Bool.not_eq_true'] at h
      exact i_cmp g h.1.1.1 h.1.1.2 (sndE F a _ sc X h.1.2 g) (sndE F b _ sc X h.2 g)
    · simp only [Bool.and_eq_true, decide_eq_true_eq] at h
      obtain ⟨⟨⟨rfl, h2⟩, h3⟩, h4⟩ := h
      exact i_ix F g h2 (sndE F a _ sc X h3 g) (sndE F b _ sc X h4 g)
    · cases h
  | .sl a lo hi, e, sc, X, h, g => by
    simp only [ckE] at h
    split at h
    · simp only [Bool.and_eq_true] at h
      obtain ⟨⟨h1, h2⟩, h3⟩ := h
      refine i_sl g (sndE F a _ sc X h1 g) ?_ ?_
      · split at h2
        · split at h2
          · exact .inl ⟨rfl, rfl⟩
          · cases h2
        · simp only [Bool.and_eq_true] at h2
          exact .inr ⟨_, rfl, sndE F lo _ sc X h2.1 g⟩
      · split at h3
        · split at h3
          · exact .inl ⟨rfl, rfl⟩
          · cases h3
        · simp only [Bool.and_eq_true] at h3
          exact .inr ⟨_, rfl, sndE F hi _ sc X h3.1 g⟩
    · cases h
  | .app p es, e, sc, X, h, g => by
    simp only [ckE] at h
    split at h
    · simp only [Bool.and_eq_true] at h
      obtain ⟨⟨⟨⟨⟨h1, h2⟩, h3⟩, h4⟩, h5⟩, h6⟩ := h
      exact i_app g F h1 h2 h3 h4 (sndEs F es _ sc X h5 g) h6
    · simp only [Bool.and_eq_true, decide_eq_true_eq] at h
      obtain ⟨⟨⟨⟨⟨⟨⟨rfl, rfl⟩, h3⟩, h4⟩, rfl⟩, h6⟩, h8⟩, h7⟩ := h
      cases es with
      | nil => simp [ckEs] at h7
      | star e1 r => simp only [ckEs] at h7; split at h7; rename_i q; cases q; simp [notStar] at h6; cases h7
      | cons e1 r =>
        simp only [ckEs, Bool.and_eq_true] at h7
        cases r with
        | nil => simp [ckEs] at h7
        | star e2 r => 
          have h9 := h7.2
          simp only [ckEs] at h9
          split at h9
          · rename_i q
            cases q
            simp [notStar] at h8
          · cases h9
        | cons e2 r =>
          simp only [ckEs, Bool.and_eq_true] at h7
          cases r with
          | nil => exact i_minD g F h3 h4 h6 (sndE F e1 _ sc X h7.1.2 g) (sndE F e2 _ sc X h7.2.1.2 g)
          | star e3 r => simp [ckEs] at h7
          | cons e3 r => simp [ckEs] at h7
    · cases h
  | .met p o es, e, sc, X, h, g => by
    simp only [ckE] at h
    split at h
    · simp only [Bool.and_eq_true, decide_eq_true_eq] at h
      obtain ⟨⟨⟨⟨⟨⟨h1, h2⟩, h3⟩, h4⟩, h5⟩, h6⟩, h7⟩ := h
      exact i_met g h1 h2 h4 h3 h5 (sndE F o _ sc X h6 g) (sndEs F es _ sc X h7 g) (nil_of h7)
    · cases h
  | .and a b, e, sc, X, h, g => by
    simp only [ckE] at h
    split at h
    · rename_i x y r pos
      simp only [Bool.and_eq_true] at h
      have ha := sndE F a _ sc X h.1 g
      have h2 := h.2
      split at h2
      · exact (pe_and ha (pe_one (sndE F b _ sc X h2 g))).imp fun σ H Q q => andv_in q
      · exact (pe_and ha (sndE F b _ sc X h2 g)).imp fun σ H Q q => andv_in q
    · cases h
  | .or a b, e, sc, X, h, g => by
    simp only [ckE] at h
    split at h
    · rename_i x y r pos
      simp only [Bool.and_eq_true] at h
      have ha := sndE F a _ sc X h.1 g
      have h2 := h.2
      split at h2
      · exact (pe_or ha (pe_one (sndE F b _ sc X h2 g))).imp fun σ H Q q => orv_in q
      · exact (pe_or ha (sndE F b _ sc X h2 g)).imp fun σ H Q q => orv_in q
    · cases h
  | .not a, e, sc, X, h, g => by
    simp only [ckE] at h
    split at h
    · exact i_not (sndE F a _ sc X h g)
    · cases h
  | .chn p q a b c, e, sc, X, h, g => by
    simp only [ckE] at h
    split at h
    · simp only [Bool.and_eq_true, decide_eq_true_eq, Bool.not_eq_true'] at h
      obtain ⟨⟨⟨⟨⟨⟨h1, h2⟩, h3⟩, h4⟩, h5⟩, h6⟩, h7⟩ := h
      exact i_chn g h1 h2 h3 h4 (sndE F a _ sc X h5 g) (sndE F b _ sc X h6 g) (sndE F c _ sc X h7 g)
    · cases h
  | .ite t a b, e, sc, X, h, g => by
    simp only [ckE] at h
    split at h
    · simp only [Bool.and_eq_true] at h
      exact i_ite (sndT F t _ sc X h.1.1 g) (sndE F a _ sc X h.1.2 g) (sndE F b _ sc X h.2 g)
    · cases h
  | .call f es, e, sc, X, h, g => by
    simp only [ckE] at h
    split at h
    · simp only [Bool.and_eq_true, decide_eq_true_eq] at h
      obtain ⟨⟨⟨⟨⟨h1, rfl⟩, h3⟩, h4⟩, h5⟩, h6⟩ := h
      exact i_call g F h1 h5 h3 h4 (sndEs F es _ sc X h6 g) (nil_of h6)
    · cases h
  | .new c es, e, sc, X, h, g => by
    simp only [ckE] at h
    split at h
    · simp only [Bool.and_eq_true, decide_eq_true_eq] at h
      obtain ⟨⟨⟨⟨⟨h1, rfl⟩, h3⟩, h4⟩, h5⟩, h6⟩ := h
      exact i_new g F h1 h5 h3 h4 (sndEs F es _ sc X h6 g) (nil_of h6)
    · cases h
  | .umt m o es, e, sc, X, h, g => by
    simp only [ckE] at h
    split at h
    · simp only [Bool.and_eq_true, decide_eq_true_eq] at h
      obtain ⟨⟨⟨⟨⟨⟨rfl, h2⟩, h3⟩, h4⟩, h5⟩, h6⟩, h7⟩ := h
      rw [F.nm]
      exact i_umt g F h2 h3 h4 h5 (sndE F o _ sc X h6 g) (sndEs F es _ sc X h7 g) (nil_of h7)
    · cases h
  | .fld f o, e, sc, X, h, g => by
    simp only [ckE] at h
    split at h
    · simp only [Bool.and_eq_true, decide_eq_true_eq] at h
      obtain ⟨⟨rfl, h2⟩, h3⟩ := h
      rw [F.nm]
      exact i_fld g F h2 (sndE F o _ sc X h3 g)
    · cases h
  | .lc it t ifs a own, e, sc, X, h, g => by
    simp only [ckE] at h
    split at h
    · rename_i elt tg iter l scope pos
      simp only [Bool.and_eq_true] at h
      obtain ⟨⟨⟨⟨⟨⟨h1, h2⟩, h3⟩, h4⟩, h5⟩, h6⟩, h7⟩ := h
      refine i_lc g (sndI F it _ _ sc X h3 g) (blk_ok g h1) h5 (fun s H C cl fp => sndG F t _ scope _ h4 (cxt_blk g h1 s H C cl fp)) (fun s H C cl fp => ?_) (fun s H C cl fp => sndE F a _ scope _ h6 (cxt_blk g h1 s H C cl fp)) (set_of h2)
      split at h7
      · split at h7
        · exact ⟨fun pins s σ H Q I q => pts_nil.run pins s σ H Q I (by
            obtain ⟨ρ, s, h, b, h', rs, S, e, k⟩ := q
            simp only [evT] at e
            cases e
            exact k ρ H (List.prefix_refl _) Keep.refl S)⟩
        · cases h7
      · exact pts_one (sndT F ifs _ scope _ h7 (cxt_blk g h1 s H C cl fp))
      · cases h7
    · cases h
  | .lc2 it t it2 t2 a own own2, e, sc, X, h, g => by
    simp only [ckE] at h
    split at h
    · simp only [Bool.and_eq_true, decide_eq_true_eq] at h
      obtain ⟨⟨⟨⟨⟨⟨⟨⟨⟨⟨h1, h2⟩, h3⟩, h4⟩, h5⟩, h6⟩, h7⟩, h8⟩, h9⟩, h10⟩, h11⟩ := h
      refine (pe_lc2 (tt := tTT W K G cs .yes) (tt1 := tTT W K G cs .yes) g.calm (by rw [g.nn]; exact g.nd) (sndI F it _ _ sc X h5 g) (blk_ok g h1) (vs1 := own2) (fun i hi => by rw [own_map]; exact h2 i hi) (fun s H C cl fp => sndG F t _ _ _ h6 (cxt_blk g h1 s H C cl fp)) (fun s H C cl fp => yes_pts)
        (fun s H C cl fp => sndI F it2 _ _ _ _ h8 (cxt_blk g h1 s H C cl fp)) (fun s H C cl fp => sndG F t2 _ _ _ h9 (cxt_blk g h1 s H C cl fp)) (fun s H C cl fp => yes_pts) (fun s H C cl fp => sndE F a _ _ _ h11 (cxt_blk g h1 s H C cl fp)) (set_of h3) (fun env => set_of h4)).imp fun σ H Q h => ?_
      rw [own_map]
      exact lc2_in h7 h10 h
    · cases h
  | .dic ks es, e, sc, X, h, g => by
    simp only [ckE] at h
    split at h
    · simp only [Bool.and_eq_true, decide_eq_true_eq] at h
      obtain ⟨⟨⟨⟨⟨h1, h2⟩, h3⟩, h4⟩, h5⟩, h6⟩ := h
      exact i_dic (no_star h5 h6) (sndP F es _ _ _ sc X _ h1 h2 h5 h6 g) (keys_some h1) h2 h3 h4
    · cases h
  | .dnewT, e, sc, X, h, g => by
    simp only [ckE] at h
    split at h
    · exact i_dnewT
    · cases h
theorem sndEs (F : Fct P w K mg base W G E cs k) : ∀ (as : Exs) (es : List Expr) (sc : Scope) (X : Cx), ckEs E N sc as es = true → Cxt P w K mg base k N X sc → PA X es (tAs W K G cs as)
  | .nil, es, sc, X, h, g => by
    cases es with
    | nil => exact i_nil
    | cons x xs => simp [ckEs] at h
  | .cons a as, es, sc, X, h, g => by
    cases es with
    | nil => simp [ckEs] at h
    | cons x xs =>
      simp only [ckEs, Bool.and_eq_true] at h
      exact i_cons (sndE F a _ sc X h.1.2 g) (sndEs F as _ sc X h.2 g) h.1.1
  | .star a as, es, sc, X, h, g => by
    simp only [ckEs] at h
    split at h
    · simp only [Bool.and_eq_true] at h
      exact i_star g.kk (sndE F a _ sc X h.1 g) (sndEs F as _ sc X h.2 g)
    · cases h
theorem sndT (F : Fct P w K mg base W G E cs k) : ∀ (t : Ts) (e : Expr) (sc : Scope) (X : Cx), ckT E N sc t e = true → Cxt P w K mg base k N X sc → PT X e (tTT W K G cs t)
  | .yes, e, sc, X, h, g => by cases e <;> simp [ckT] at h
  | .val a, e, sc, X, h, g => by
    simp only [ckT, Bool.and_eq_true, Bool.or_eq_true] at h
    obtain ⟨h1, h2⟩ := h
    rcases h1 with h1 | h1
    · exact t_val g.kk (sndE F a _ sc X h2 g) h1
    · split at h1
      · split at h1
        · rename_i p x y
          simp only [ckE, Bool.and_eq_true, decide_eq_true_eq, Bool.not_eq_true'] at h2
          exact t_cmp2 g h2.1.1.1 h2.1.1.2 (sndE F x _ sc X h2.1.2 g) (sndE F y _ sc X h2.2 g)
        · simp only [ckE] at h2
          split at h2 <;> first | (rename_i q1 q2; cases q1; done) | skip
          all_goals first | (cases h2; done) | skip
          all_goals (rename_i q1 q2; cases q2; exact t_isN (sndE F _ _ sc X h2 g))
        · simp only [ckE] at h2
          split at h2 <;> first | (rename_i q1 q2; cases q1; done) | skip
          all_goals first | (cases h2; done) | skip
          all_goals (rename_i q1 q2; cases q2; exact t_notN (sndE F _ _ sc X h2 g))
        · cases h1
      · split at h1
        · rename_i p q x y z
          simp only [ckE, Bool.and_eq_true, decide_eq_true_eq, Bool.not_eq_true'] at h2
          obtain ⟨⟨⟨⟨⟨⟨h1, h2⟩, h3⟩, h4⟩, h5⟩, h6⟩, h7⟩ := h2
          exact t_chn g h1 h2 h3 h4 (sndE F x _ sc X h5 g) (sndE F y _ sc X h6 g) (sndE F z _ sc X h7 g)
        · cases h1
      · cases h1
  | .and a b, e, sc, X, h, g => by
    simp only [ckT] at h
    split at h
    · simp only [Bool.and_eq_true] at h
      have ha := sndT F a _ sc X h.1 g
      have h2 := h.2
      split at h2
      · exact (w_and ha (pw_and1 (sndT F b _ sc X h2 g))).pt
      · exact (w_and ha (sndW F b _ _ _ sc X h2 g)).pt
    · cases h
  | .or a b, e, sc, X, h, g => by
    simp only [ckT] at h
    split at h
    · simp only [Bool.and_eq_true] at h
      have ha := sndT F a _ sc X h.1 g
      have h2 := h.2
      split at h2
      · exact (w_or ha (pw_or1 (sndT F b _ sc X h2 g))).pt
      · exact (w_or ha (sndW F b _ _ _ sc X h2 g)).pt
    · cases h
  | .not a, e, sc, X, h, g => by
    simp only [ckT] at h
    split at h
    · exact t_not (sndT F a _ sc X h g)
    · cases h
theorem sndW (F : Fct P w K mg base W G E cs k) : ∀ (t : Ts) (o : BoolOp) (l : List Expr) (pos : Pos) (sc : Scope) (X : Cx), ckT E N sc t (.BoolOp o l pos) = true → Cxt P w K mg base k N X sc → PW X (.BoolOp o l pos) (tTT W K G cs t)
  | .yes, o, l, pos, sc, X, h, g => by simp [ckT] at h
  | .val a, o, l, pos, sc, X, h, g => by simp [ckT, plainT] at h
  | .and a b, o, l, pos, sc, X, h, g => by
    simp only [ckT] at h
    split at h
    · rename_i q
      cases q
      simp only [Bool.and_eq_true] at h
      have ha := sndT F a _ sc X h.1 g
      have h2 := h.2
      split at h2
      · exact w_and ha (pw_and1 (sndT F b _ sc X h2 g))
      · exact w_and ha (sndW F b _ _ _ sc X h2 g)
    · cases h
  | .or a b, o, l, pos, sc, X, h, g => by
    simp only [ckT] at h
    split at h
    · rename_i q
      cases q
      simp only [Bool.and_eq_true] at h
      have ha := sndT F a _ sc X h.1 g
      have h2 := h.2
      split at h2
      · exact w_or ha (pw_or1 (sndT F b _ sc X h2 g))
      · exact w_or ha (sndW F b _ _ _ sc X h2 g)
    · cases h
  | .not a, o, l, pos, sc, X, h, g => by simp [ckT] at h
theorem sndP (F : Fct P w K mg base W G E cs k) : ∀ (es : Exs) (ks : List Key) (keys : List (Option Expr)) (vals : List Expr) (sc : Scope) (X : Cx) (pos : Pos), keys.map (fun x => x.map keyE) = ks.map (fun k => some (some k)) → keys.length = vals.length → vals.all notStar = true → ckEs E N sc es vals = true → Cxt P w K mg base k N X sc → PPs X pos keys vals (trsOf ks (tesOf W K G cs es))
  | .nil, ks, keys, vals, sc, X, pos, h1, hl, h2, h3, g => by
    cases vals with
    | nil =>
      cases keys with
      | nil =>
        cases ks with
        | nil => exact pps_nil
        | cons k ks => simp at h1
      | cons x xs => simp at hl
    | cons x xs => simp [ckEs] at h3
  | .cons e es, ks, keys, vals, sc, X, pos, h1, hl, h2, h3, g => by
    cases vals with
    | nil => simp [ckEs] at h3
    | cons x xs =>
      simp only [ckEs, Bool.and_eq_true] at h3
      simp only [List.all_cons, Bool.and_eq_true] at h2
      cases keys with
      | nil => simp at hl
      | cons y ys =>
        cases ks with
        | nil => simp at h1
        | cons k ks =>
          simp only [List.map_cons, List.cons.injEq] at h1
          cases y with
          | none => simp at h1
          | some z => exact pps_cons (key_pe (by simpa using h1.1)) (sndE F e _ sc X h3.1.2 g) (sndP F es ks ys xs sc X pos h1.2 (by simpa using hl) h2.2 h3.2 g)
  | .star e es, ks, keys, vals, sc, X, pos, h1, hl, h2, h3, g => by
    have := no_star h2 h3
    simp [noStarE] at this
theorem sndI (F : Fct P w K mg base W G E cs k) : ∀ (t : It) (tg e : Expr) (sc : Scope) (X : Cx), ckI E N sc t tg e = true → Cxt P w K mg base k N X sc → PI X tg e (tIt W K G cs t)
  | .seq a, tg, e, sc, X, h, g => by
    simp only [ckI] at h
    exact s_seq g.kk (sndE F a _ sc X h g)
  | .rng1 a, tg, e, sc, X, h, g => by
    simp only [ckI] at h
    split at h
    · simp only [Bool.and_eq_true, decide_eq_true_eq] at h
      obtain ⟨⟨⟨⟨rfl, h2⟩, h3⟩, h4⟩, h5⟩ := h
      exact s_rng1 g F h2 h3 h4 (sndE F a _ sc X h5 g)
    · cases h
  | .rng2 a b, tg, e, sc, X, h, g => by
    simp only [ckI] at h
    split at h
    · simp only [Bool.and_eq_true, decide_eq_true_eq] at h
      obtain ⟨⟨⟨⟨⟨⟨rfl, h2⟩, h3⟩, h4⟩, h5⟩, h6⟩, h7⟩ := h
      exact s_rng2 g F h2 h3 h4 h5 (sndE F a _ sc X h6 g) (sndE F b _ sc X h7 g)
    · cases h
  | .enum a, tg, e, sc, X, h, g => by simp [ckI] at h
  | .zip a b, tg, e, sc, X, h, g => by simp [ckI] at h
theorem sndG (F : Fct P w K mg base W G E cs k) : ∀ (t : Tg) (e : Expr) (sc : Scope) (X : Cx), ckG E N sc t e = true → Cxt P w K mg base k N X sc → PG X e (tTg W K G cs t)
  | .nm i, e, sc, X, h, g => by
    simp only [ckG] at h
    split at h
    · simp only [Bool.and_eq_true, decide_eq_true_eq] at h
      exact g_nm g h.1 h.2
    · cases h
  | .tp ts, e, sc, X, h, g => by
    simp only [ckG] at h
    split at h
    · simp only [Bool.and_eq_true] at h
      exact g_tp g h.1 (fun ds s h' r q => sts_len ts _ ds s h' r h.2 q) (sndGs F ts _ sc X h.2 g)
    · cases h
  | .sub o i, e, sc, X, h, g => by
    simp only [ckG] at h
    split at h
    · simp only [Bool.and_eq_true] at h
      exact g_sub g h.1.1 (sndE F o _ sc X h.1.2 g) (sndE F i _ sc X h.2 g)
    · cases h
  | .fld o f, e, sc, X, h, g => by cases e <;> simp [ckG] at h
theorem sndGs (F : Fct P w K mg base W G E cs k) : ∀ (ts : Tgs) (es : List Expr) (sc : Scope) (X : Cx), ckGs E N sc ts es = true → Cxt P w K mg base k N X sc → PGs X es (tTgs W K G cs ts)
  | .nil, es, sc, X, h, g => by
    cases es with
    | nil => exact g_nil
    | cons x xs => simp [ckGs] at h
  | .cons t ts, es, sc, X, h, g => by
    cases es with
    | nil => simp [ckGs] at h
    | cons x xs =>
      simp only [ckGs, Bool.and_eq_true] at h
      exact g_cons h.1.1 (sndG F t _ sc X h.1.2 g) (sndGs F ts _ sc X h.2 g)
end
end
end Z
end

-- ZI
section
set_option Elab.async false
set_option linter.all false
set_option maxRecDepth 100000
set_option maxHeartbeats 4000000
/-! Statements. -/
namespace Z
open PySem L2 PySem.Spec PyProof.Rows
section
variable (W : Pl) (K : PySem.W.Frag) (G : GEnv) (cs : CS)
def OutK (ρ : List Addr) (H : Hp) (D : Ends) : Out → Prop
  | .nx s h => Nxt W K ρ H h fun ρ' H' => ∀ σ', RelS W K ρ' H' s σ' → D.nx σ' H'
  | .rt v h => RetD W K ρ H v h D.rt
  | .bk s h => Nxt W K ρ H h fun ρ' H' => ∀ σ', RelS W K ρ' H' s σ' → D.bk σ' H'
  | .ct s h => Nxt W K ρ H h fun ρ' H' => ∀ σ', RelS W K ρ' H' s σ' → D.ct σ' H'
def tX (c : Stm) : TS := fun D σ H => ∃ ρ s h o, RelS W K ρ H s σ ∧ Sim W K ρ h H ∧ ex G cs c s h = some o ∧ OutK W K ρ H D o
def tXs (c : Stms) : TS := fun D σ H => ∃ ρ s h o, RelS W K ρ H s σ ∧ Sim W K ρ h H ∧ exs G cs c s h = some o ∧ OutK W K ρ H D o
end
theorem _root_.L2.PS.imp {X : Cx} {e : Stmt} {t t' : TS} (h : PS X e t) (hi : ∀ D σ H, t' D σ H → t D σ H) : PS X e t' := ⟨fun pins s σ H D I q => h.run pins s σ H D I (hi D σ H q)⟩
theorem _root_.L2.PSs.imp {X : Cx} {e : List Stmt} {t t' : TS} (h : PSs X e t) (hi : ∀ D σ H, t' D σ H → t D σ H) : PSs X e t' := ⟨fun pins s σ H D I q => h.run pins s σ H D I (hi D σ H q)⟩
section
variable {P : Program} {w : World} {K : PySem.W.Frag} {mg : Str → Option Value} {base : Heap} {W : Pl} {G : GEnv} {E : CkE} {cs : CS} {k : Nat} {N : List Str} {X : Cx} {sc : Scope}
theorem OutK.mono {ρ ρ1 : List Addr} {H H1 : Hp} {D : Ends} {o : Out} (q : OutK W K ρ H D o) (p : ρ <+: ρ1) (kk : Keep K H H1) : OutK W K ρ1 H1 D o := by
  cases o with
  | nx s h => exact Nxt.mono q p kk
  | rt v h => exact RetD.mono q p kk
  | bk s h => exact Nxt.mono q p kk
  | ct s h => exact Nxt.mono q p kk
theorem OutK.nx {ρ : List Addr} {h : Hh} {H : Hp} {D : Ends} {s : Sl} {σ : L2.St} (q : OutK W K ρ H D (.nx s h)) (S : Sim W K ρ h H) (rs : RelS W K ρ H s σ) : D.nx σ H := q ρ H (List.prefix_refl _) Keep.refl S σ rs
/-- where a statement of a def stands -/
structure CxS (P : Program) (w : World) (K : PySem.W.Frag) (mg : Str → Option Value) (base : Heap) (k : Nat) (N : List Str) (X : Cx) (sc : Scope) : Prop where
  cx : Cxt P w K mg base k N X sc
  sc : X.env.scope = sc
  own : PassesOwn (model X.prog X.w) X.A X.env X.xe

/-! ### swaps -/
theorem sw_plain {v : Expr} {t : Option Expr} {l : Nat} {env : Env} (h : notComp v = true) : swapsWith v t l env = pure false := by
  cases v <;> first | rfl | (simp [notComp] at h)
theorem sw_tup {v : Expr} {es : List Expr} {j l : Nat} {p : Pos} {env : Env} : swapsWith v (some (.Tuple es j p)) l env = pure false := by cases v <;> rfl
theorem sw_sub {v o i : Expr} {l : Nat} {p : Pos} {env : Env} : swapsWith v (some (.Subscript o i p)) l env = pure false := by cases v <;> rfl
theorem sw_att {v o : Expr} {x : Str} {l : Nat} {p : Pos} {env : Env} : swapsWith v (some (.Attribute o x p)) l env = pure false := by cases v <;> rfl
theorem bk_fun {env : Env} (hk : env.scope.kind = .function) : env.blockKind = .function := by unfold Env.blockKind; rw [hk]; rfl
theorem sw_lc {elt : Expr} {gs : List Comprehension} {scope : Scope} {pos py : Pos} {y : Str} {l : Nat} {env : Env} (hk : env.scope.kind = .function) : swapsWith (.ListComp elt gs scope pos) (some (.Name y py)) l env = pure (lcSwap env.scope scope y py.line pos.line) := by
  have hb := bk_fun hk
  unfold swapsWith lcSwap
  simp only [hb, Expr.pos]
  rfl
theorem filterMap_full {α β : Type} {f : α → Option β} : ∀ {l : List α}, (l.filterMap f).length = l.length → ∀ x ∈ l, (f x).isSome = true
  | [], _, x, h => by simp at h
  | a :: l, e, x, h => by
    have hle := List.length_filterMap_le f l
    cases ha : f a with
    | none =>
      rw [List.filterMap_cons_none ha] at e
      simp at e
      omega
    | some b =>
      rw [List.filterMap_cons_some ha] at e
      rcases List.mem_cons.mp h with z | z
      · subst z; rw [ha]; rfl
      · exact filterMap_full (l := l) (by simpa using e) x z
def stB : Expr → Bool
  | .Starred .. => true
  | _ => false
def nmF (env : Env) (line : Nat) : Expr → Option Str
  | .Name id pos => if env.kindOf id == some .local && pos.line == line then some id else none
  | _ => none
theorem sws_eq {ts vs : List Expr} {j j2 : Nat} {p p2 : Pos} {env : Env} : swappedStores [.Tuple ts j p] (.Tuple vs j2 p2) env =
    (if (!(ts.length == 2 || ts.length == 3) || vs.length != ts.length || env.blockKind != .function) = true then pure none
    else if (vs.any stB) = true then pure none
    else if ((ts.filterMap (nmF env (headLine ts))).length != ts.length || (ts.filterMap (nmF env (headLine ts))).eraseDups.length != (ts.filterMap (nmF env (headLine ts))).length) = true then pure none
    else if vs.all (foldedForSure 8) = true then pure none
    else if vs.all (constantsAlone 8) = true then (do let _ ← (unsupported "assign.tuple-of-constant-expressions:order-of-the-stores" : Sem PUnit); pure (some (ts.filterMap (nmF env (headLine ts)))))
    else pure (some (ts.filterMap (nmF env (headLine ts))))) := by
  rfl
theorem sws_none {ts : List Expr} {v : Expr} {j : Nat} {p : Pos} {env : Env} (h : viaTup env.scope ts v = true) : swappedStores [.Tuple ts j p] v env = pure none := by
  cases v with
  | Tuple vs j2 p2 =>
    rw [sws_eq]
    split
    · rfl
    · split
      · rfl
      · split
        · rfl
        · rename_i n1 n2 n3
          split
          · rfl
          · rename_i n4
            exfalso
            simp only [viaTup, Bool.or_eq_true] at h
            rcases h with (h | h) | h
            · rw [List.any_eq_true] at h
              obtain ⟨t, ht, e⟩ := h
              have e3 : (ts.filterMap (nmF env (headLine ts))).length = ts.length := by
                simp only [Bool.or_eq_true, not_or, bne_iff_ne, ne_eq, Decidable.not_not] at n3
                exact n3.1
              have := filterMap_full e3 t ht
              unfold nmF at this
              split at this
              · rename_i id pos
                split at this
                · rename_i q
                  have q' : nameOk env.scope (headLine ts) (.Name id pos) = true := q
                  rw [q'] at e
                  cases e
                · cases this
              · cases this
            · exact n4 h
            · apply n1
              simp only [Bool.or_eq_true] 
              exact .inl (.inl h)
  | _ => rfl
theorem nmF_ok {env : Env} {l : Nat} {x : Str} {p : Pos} (h : nameOk env.scope l (.Name x p) = true) : nmF env l (.Name x p) = some x := by
  have : (env.kindOf x == some .local && p.line == l) = true := h
  simp only [nmF, this, if_true]
theorem dups2 {x y : Str} (h : x ≠ y) : [x, y].eraseDups = [x, y] := by
  have : y ≠ x := Ne.symm h
  simp [List.eraseDups_cons, this]
theorem dups3 {x y z : Str} (h : x ≠ y) (h2 : x ≠ z) (h3 : y ≠ z) : [x, y, z].eraseDups = [x, y, z] := by
  have a := Ne.symm h
  have b := Ne.symm h2
  have c := Ne.symm h3
  simp [List.eraseDups_cons, a, b, c]
theorem notStar_any {v : Expr} (h : notStar v = true) : stB v = false := by
  cases v <;> first | rfl | (simp [notStar] at h)
theorem sws_2 {x1 x2 : Str} {p1 p2 p p3 : Pos} {v1 v2 : Expr} {j j2 : Nat} {env : Env} (hk : env.scope.kind = .function) (f : (foldedForSure 8 v1 && foldedForSure 8 v2) = false) (c : (constantsAlone 8 v1 && constantsAlone 8 v2) = false) (s1 : notStar v1 = true) (s2 : notStar v2 = true) (ne : x1 ≠ x2)
    (n1 : nameOk env.scope p1.line (.Name x1 p1) = true) (n2 : nameOk env.scope p1.line (.Name x2 p2) = true) : swappedStores [.Tuple [.Name x1 p1, .Name x2 p2] j p] (.Tuple [v1, v2] j2 p3) env = pure (some [x1, x2]) := by
  have hn : [Expr.Name x1 p1, .Name x2 p2].filterMap (nmF env (headLine [Expr.Name x1 p1, .Name x2 p2])) = [x1, x2] := by
    show [Expr.Name x1 p1, .Name x2 p2].filterMap (nmF env p1.line) = [x1, x2]
    rw [List.filterMap_cons_some (nmF_ok n1), List.filterMap_cons_some (nmF_ok n2)]
    rfl
  rw [sws_eq, hn, dups2 ne]
  simp only [bk_fun hk, List.any_cons, List.any_nil, notStar_any s1, notStar_any s2, List.all_cons, List.all_nil, Bool.and_true, f, c]
  rfl
theorem sws_3 {x1 x2 x3 : Str} {p1 p2 q3 p p3 : Pos} {v1 v2 v3 : Expr} {j j2 : Nat} {env : Env} (hk : env.scope.kind = .function) (f : (foldedForSure 8 v1 && foldedForSure 8 v2 && foldedForSure 8 v3) = false) (c : (constantsAlone 8 v1 && constantsAlone 8 v2 && constantsAlone 8 v3) = false) (s1 : notStar v1 = true) (s2 : notStar v2 = true) (s3 : notStar v3 = true) (ne : x1 ≠ x2) (ne2 : x1 ≠ x3) (ne3 : x2 ≠ x3)
    (n1 : nameOk env.scope p1.line (.Name x1 p1) = true) (n2 : nameOk env.scope p1.line (.Name x2 p2) = true) (n3 : nameOk env.scope p1.line (.Name x3 q3) = true) : swappedStores [.Tuple [.Name x1 p1, .Name x2 p2, .Name x3 q3] j p] (.Tuple [v1, v2, v3] j2 p3) env = pure (some [x1, x2, x3]) := by
  have hn : [Expr.Name x1 p1, .Name x2 p2, .Name x3 q3].filterMap (nmF env (headLine [Expr.Name x1 p1, .Name x2 p2, .Name x3 q3])) = [x1, x2, x3] := by
    show [Expr.Name x1 p1, .Name x2 p2, .Name x3 q3].filterMap (nmF env p1.line) = [x1, x2, x3]
    rw [List.filterMap_cons_some (nmF_ok n1), List.filterMap_cons_some (nmF_ok n2), List.filterMap_cons_some (nmF_ok n3)]
    rfl
  have f' : (foldedForSure 8 v1 && (foldedForSure 8 v2 && foldedForSure 8 v3)) = false := by rw [← Bool.and_assoc]; exact f
  have c' : (constantsAlone 8 v1 && (constantsAlone 8 v2 && constantsAlone 8 v3)) = false := by rw [← Bool.and_assoc]; exact c
  rw [sws_eq, hn, dups3 ne ne2 ne3]
  simp only [bk_fun hk, List.any_cons, List.any_nil, notStar_any s1, notStar_any s2, notStar_any s3, List.all_cons, List.all_nil, Bool.and_true, f', c']
  rfl
end
end Z
end

-- ZJ
section
set_option Elab.async false
set_option linter.all false
set_option maxRecDepth 100000
set_option maxHeartbeats 4000000
/-! Statements, blocks. -/
namespace Z
open PySem L2 PySem.Spec PyProof.Rows
section
variable {P : Program} {w : World} {K : PySem.W.Frag} {mg : Str → Option Value} {base : Heap} {W : Pl} {G : GEnv} {E : CkE} {cs : CS} {k : Nat} {N : List Str} {X : Cx} {sc : Scope}
/-- t := e at name i -/
theorem asg_in {i : Nat} {e : Ex} {D : Ends} {σ : L2.St} {H : Hp} (h : tX W K G cs (.asg (.nm i) e) D σ H) : tAsg (tI W K G cs e) (gName i) D σ H := by
  obtain ⟨ρ, s, h, o, rs, S, e1, q⟩ := h
  simp only [ex] at e1
  split at e1
  · rename_i v h1 e2
    simp only [st] at e1
    cases e1
    exact ⟨ρ, s, h, v, h1, rs, S, e2, fun ρ1 H1 p1 k1 S1 u r => q ρ1 H1 p1 k1 S1 _ ((rs.mono p1 k1).set r i)⟩
  · cases e1
theorem x_nm (g : CxS P w K mg base k N X sc) (F : Fct P w K mg base W G E cs k) {i : Nat} {e : Ex} {y : Str} {py pos : Pos} {v : Expr} (hl : locB sc y = true) (hn : N[i]? = some y) (he : PE X v (tI W K G cs e)) (hs : swapsWith v (some (.Name y py)) pos.line X.env = pure false) :
    PS X (.Assign [.Name y py] v pos) (tX W K G cs (.asg (.nm i) e)) := by
  obtain ⟨h1, h2⟩ := g.cx.loc y hl
  exact (ps_set (i := i) (by rw [g.cx.nn]; exact g.cx.nd) (by rw [g.cx.nn]; exact hn) h1 he hs h2).imp fun D σ H h => asg_in h
theorem x_lc (g : CxS P w K mg base k N X sc) (F : Fct P w K mg base W G E cs k) {i : Nat} {it : It} {t : Tg} {ts : Ts} {a : Ex} {own : List Nat} {y : Str} {py pos lpos : Pos} {elt tg iter : Expr} {l : List Expr} {scope : Scope} (hn : N[i]? = some y)
    (hsw : lcSwap sc scope y py.line lpos.line = true) (h : ckE E N sc (.lc it t ts a own) (.ListComp elt [⟨tg, iter, l, 0⟩] scope lpos) = true) :
    PS X (.Assign [.Name y py] (.ListComp elt [⟨tg, iter, l, 0⟩] scope lpos) pos) (tX W K G cs (.asg (.nm i) (.lc it t ts a own))) := by
  have hk := g.cx.kind
  have hsc := g.sc
  simp only [ckE, Bool.and_eq_true] at h
  obtain ⟨⟨⟨⟨⟨⟨h1, h2⟩, h3⟩, h4⟩, h5⟩, h6⟩, h7⟩ := h
  have hyl : X.env.scope.names.lookup y = some .local := by
    rw [hsc]
    simp only [lcSwap, Bool.and_eq_true, beq_iff_eq] at hsw
    exact hsw.1.1
  refine (ps_setLc (wi := tIt W K G cs it) (g := tTg W K G cs t) (tt := tTT W K G cs ts) (te := tI W K G cs a) g.cx.calm (by rw [g.cx.nn]; exact g.cx.nd) (i := i) (by rw [g.cx.nn]; exact hn) hyl (by rw [sw_lc hk, hsc, hsw]) (sndI F it _ _ sc X h3 g.cx) (blk_ok g.cx h1) (fun s H C cl fp => sndG F t _ scope _ h4 (cxt_blk g.cx h1 s H C cl fp)) (fun s H C cl fp => ?_) (fun s H C cl fp => sndE F a _ scope _ h6 (cxt_blk g.cx h1 s H C cl fp)) (set_of h2)).imp fun D σ H h => ?_
  · split at h7
    · split at h7
      · exact ⟨fun pins s σ H Q I q => pts_nil.run pins s σ H Q I (by
          obtain ⟨ρ, s, h, b, h', rs, S, e, k⟩ := q
          simp only [evT] at e
          cases e
          exact k ρ H (List.prefix_refl _) Keep.refl S)⟩
      · cases h7
    · exact pts_one (sndT F ts _ scope _ h7 (cxt_blk g.cx h1 s H C cl fp))
    · cases h7
  · rw [own_map]
    exact lc_in h5 (asg_in h)
theorem x_lc2 (g : CxS P w K mg base k N X sc) (F : Fct P w K mg base W G E cs k) {i : Nat} {it it2 : It} {t t2 : Tg} {a : Ex} {own own2 : List Nat} {y : Str} {py pos lpos : Pos} {elt tg iter tg1 iter1 : Expr} {scope : Scope} (hn : N[i]? = some y)
    (hsw : lcSwap sc scope y py.line lpos.line = true) (h : ckE E N sc (.lc2 it t it2 t2 a own own2) (.ListComp elt [⟨tg, iter, [], 0⟩, ⟨tg1, iter1, [], 0⟩] scope lpos) = true) :
    PS X (.Assign [.Name y py] (.ListComp elt [⟨tg, iter, [], 0⟩, ⟨tg1, iter1, [], 0⟩] scope lpos) pos) (tX W K G cs (.asg (.nm i) (.lc2 it t it2 t2 a own own2))) := by
  have hk := g.cx.kind
  have hsc := g.sc
  simp only [ckE, Bool.and_eq_true, decide_eq_true_eq] at h
  obtain ⟨⟨⟨⟨⟨⟨⟨⟨⟨⟨h1, h2⟩, h3⟩, h4⟩, h5⟩, h6⟩, h7⟩, h8⟩, h9⟩, h10⟩, h11⟩ := h
  have hyl : X.env.scope.names.lookup y = some .local := by
    rw [hsc]
    simp only [lcSwap, Bool.and_eq_true, beq_iff_eq] at hsw
    exact hsw.1.1
  refine (ps_setLc2 (tt := tTT W K G cs .yes) (tt1 := tTT W K G cs .yes) g.cx.calm (by rw [g.cx.nn]; exact g.cx.nd) (i := i) (by rw [g.cx.nn]; exact hn) hyl (by rw [sw_lc hk, hsc, hsw]) (sndI F it _ _ sc X h5 g.cx) (blk_ok g.cx h1) (vs1 := own2) (fun i hi => by rw [own_map]; exact h2 i hi) (fun s H C cl fp => sndG F t _ _ _ h6 (cxt_blk g.cx h1 s H C cl fp)) (fun s H C cl fp => yes_pts)
    (fun s H C cl fp => sndI F it2 _ _ _ _ h8 (cxt_blk g.cx h1 s H C cl fp)) (fun s H C cl fp => sndG F t2 _ _ _ h9 (cxt_blk g.cx h1 s H C cl fp)) (fun s H C cl fp => yes_pts) (fun s H C cl fp => sndE F a _ _ _ h11 (cxt_blk g.cx h1 s H C cl fp)) (set_of h3) (fun env => set_of h4)).imp fun D σ H h => ?_
  rw [own_map]
  exact lc2_in h7 h10 (asg_in h)
theorem pts_of {Y : Cx} {sc' : Scope} (F : Fct P w K mg base W G E cs k) (g : Cxt P w K mg base k N Y sc') {e : Expr} {t : Ts} (h : ckT E N sc' t e = true) : PT Y e (tTT W K G cs t) := sndT F t e sc' Y h g
theorem x_tgt (g : CxS P w K mg base k N X sc) {t : Tg} {e : Ex} {tg v : Expr} {pos : Pos} (he : PE X v (tI W K G cs e)) (hg : PG X tg (tTg W K G cs t)) (hs : swapsWithSole [tg] v pos.line X.env = pure false) (hw : swappedStores [tg] v X.env = pure none) (h1 : (assignEach [tg] X.env).map (·.2) = [assign tg X.env]) :
    PS X (.Assign [tg] v pos) (tX W K G cs (.asg t e)) :=
  (ps_asg he hg hs hw h1).imp fun D σ H h => by
    obtain ⟨ρ, s, h, o, rs, S, e1, q⟩ := h
    simp only [ex] at e1
    split at e1
    · rename_i v h1 e2
      split at e1
      · rename_i s2 h2 e3
        cases e1
        exact ⟨ρ, s, h, v, h1, rs, S, e2, fun ρ1 H1 p1 k1 S1 u r => ⟨ρ1, s, h1, v, s2, h2, rs.mono p1 k1, S1, r, e3, fun ρ2 H2 p2 k2 S2 σ2 rs2 _ => q ρ2 H2 (p1.trans p2) (k1.trans k2) S2 σ2 rs2⟩⟩
      · cases e1
    · cases e1
theorem x_fld (g : CxS P w K mg base k N X sc) (F : Fct P w K mg base W G E cs k) {f : Nat} {e o : Ex} {v oe : Expr} {p2 pos : Pos} (he : PE X v (tI W K G cs e)) (ho : PE X oe (tI W K G cs o)) : PS X (.Assign [.Attribute oe (W.nm f) p2] v pos) (tX W K G cs (.asg (.fld o f) e)) :=
  (ps_fld ho he sw_att).imp fun D σ H h => by
    obtain ⟨ρ, s, h, out, rs, S, e1, q⟩ := h
    simp only [ex] at e1
    split at e1
    · rename_i v h1 e2
      split at e1
      · rename_i s2 h2 e3
        cases e1
        simp only [st] at e3
        split at e3
        · rename_i n h3 e4
          split at e3
          · rename_i c fs e5
            split at e3
            · rename_i hc
              cases e3
              obtain ⟨hl, hf⟩ := hc
              obtain ⟨cl, na⟩ := F.fld c f hf
              refine ⟨ρ, s, h, v, h1, rs, S, e2, fun ρ1 H1 p1 k1 S1 u r => ⟨ρ1, s, h1, _, h3, rs.mono p1 k1, S1, e4, fun ρ2 H2 p2 k2 S2 ov ro => ?_⟩⟩
              obtain ⟨a, rfl, ea⟩ := ro
              obtain ⟨dx, ys, q1, rf⟩ := S2.at_ n _ a e5 ea
              have kp : Keep K H2 (upd H2 a (.ins (W.cl c) dx (putF (W.nm f) u ys))) := Keep.mut q1 trivial
              refine ⟨a, W.cl c, dx, ys, rfl, q1, by rw [g.cx.kk]; exact cl, by rw [g.cx.kk]; exact na, by rw [← rf.length]; exact hl, ?_⟩
              refine q ρ2 _ (p1.trans p2) ((k1.trans k2).trans kp) (S2.set ea q1 trivial ⟨dx, _, upd_same, ?_⟩) σ ((rs.mono (p1.trans p2) (k1.trans k2)).mono (List.prefix_refl _) kp)
              exact RelF.mono (List.prefix_refl _) kp _ _ (rf.put F.inj (RelI.mono p2 k2 _ _ r))
            · cases e3
          · cases e3
        · cases e3
      · cases e1
    · cases e1
theorem x_par (g : CxS P w K mg base k N X sc) {i1 i2 : Nat} {e1 e2 : Ex} {x1 x2 : Str} {p1 p2 p p3 pos : Pos} {v1 v2 : Expr} {j j2 : Nat} (f : (foldedForSure 8 v1 && foldedForSure 8 v2) = false) (c : (constantsAlone 8 v1 && constantsAlone 8 v2) = false) (s1 : notStar v1 = true) (s2 : notStar v2 = true) (ne : x1 ≠ x2)
    (n1 : nameOk sc p1.line (.Name x1 p1) = true) (n2 : nameOk sc p1.line (.Name x2 p2) = true) (hi : N[i1]? = some x1) (hj : N[i2]? = some x2) (ha : PA X [v1, v2] (tAs W K G cs (.cons e1 (.cons e2 .nil)))) :
    PS X (.Assign [.Tuple [.Name x1 p1, .Name x2 p2] j p] (.Tuple [v1, v2] j2 p3) pos) (tX W K G cs (.asg (.tp (.cons (.nm i1) (.cons (.nm i2) .nil))) (.tup (.cons e1 (.cons e2 .nil))))) := by
  rw [← g.sc] at n1 n2
  have l1 : X.env.scope.names.lookup x1 = some .local := by simp only [nameOk, Bool.and_eq_true, beq_iff_eq] at n1; exact n1.1
  have l2 : X.env.scope.names.lookup x2 = some .local := by simp only [nameOk, Bool.and_eq_true, beq_iff_eq] at n2; exact n2.1
  have hij : i1 ≠ i2 := fun z => by rw [z, hj] at hi; exact ne (Option.some.inj hi).symm
  refine (ps_par g.cx.calm (by rw [g.cx.nn]; exact g.cx.nd) (by rw [g.cx.nn]; exact hi) (by rw [g.cx.nn]; exact hj) hij l1 l2 ha (sws_2 g.cx.kind f c s1 s2 ne n1 n2) rfl).imp fun D σ H h => ?_
  obtain ⟨ρ, s, h, o, rs, S, e1, q⟩ := h
  simp only [ex] at e1
  split at e1
  · rename_i v h1 e2
    simp only [ev] at e2
    split at e2
    · rename_i ds h2 e3
      split at e2
      · cases e2
        split at e1
        · rename_i s3 h3 e4
          cases e1
          simp only [st] at e4
          refine ⟨ρ, s, h, ds, _, rs, S, e3, fun ρ1 H1 p1 k1 S1 vs r => ?_⟩
          cases ds with
          | nil => simp [sts] at e4
          | cons d ds =>
            cases ds with
            | nil => simp [sts, st] at e4
            | cons d2 ds =>
              cases ds with
              | cons d3 ds => simp [sts, st] at e4
              | nil =>
                simp only [sts, st] at e4
                cases e4
                obtain ⟨u1, _, rfl, r1, u2, _, rfl, r2, rfl⟩ := r
                exact ⟨u1, u2, rfl, q ρ1 H1 p1 k1 S1 _ (((rs.mono p1 k1).set r1 i1).set r2 i2)⟩
        · cases e1
      · cases e2
    · cases e2
  · cases e1
theorem x_par3 (g : CxS P w K mg base k N X sc) {i1 i2 i3 : Nat} {e1 e2 e3 : Ex} {x1 x2 x3 : Str} {p1 p2 q3 p p3 pos : Pos} {v1 v2 v3 : Expr} {j j2 : Nat} (f : (foldedForSure 8 v1 && foldedForSure 8 v2 && foldedForSure 8 v3) = false) (c : (constantsAlone 8 v1 && constantsAlone 8 v2 && constantsAlone 8 v3) = false) (s1 : notStar v1 = true) (s2 : notStar v2 = true) (s3 : notStar v3 = true) (ne : x1 ≠ x2) (ne2 : x1 ≠ x3) (ne3 : x2 ≠ x3)
    (n1 : nameOk sc p1.line (.Name x1 p1) = true) (n2 : nameOk sc p1.line (.Name x2 p2) = true) (n3 : nameOk sc p1.line (.Name x3 q3) = true) (hi : N[i1]? = some x1) (hj : N[i2]? = some x2) (hl : N[i3]? = some x3) (ha : PA X [v1, v2, v3] (tAs W K G cs (.cons e1 (.cons e2 (.cons e3 .nil))))) :
    PS X (.Assign [.Tuple [.Name x1 p1, .Name x2 p2, .Name x3 q3] j p] (.Tuple [v1, v2, v3] j2 p3) pos) (tX W K G cs (.asg (.tp (.cons (.nm i1) (.cons (.nm i2) (.cons (.nm i3) .nil)))) (.tup (.cons e1 (.cons e2 (.cons e3 .nil)))))) := by
  rw [← g.sc] at n1 n2 n3
  have l1 : X.env.scope.names.lookup x1 = some .local := by simp only [nameOk, Bool.and_eq_true, beq_iff_eq] at n1; exact n1.1
  have l2 : X.env.scope.names.lookup x2 = some .local := by simp only [nameOk, Bool.and_eq_true, beq_iff_eq] at n2; exact n2.1
  have l3 : X.env.scope.names.lookup x3 = some .local := by simp only [nameOk, Bool.and_eq_true, beq_iff_eq] at n3; exact n3.1
  have hij : i1 ≠ i2 := fun z => by rw [z, hj] at hi; exact ne (Option.some.inj hi).symm
  have hil : i1 ≠ i3 := fun z => by rw [z, hl] at hi; exact ne2 (Option.some.inj hi).symm
  have hjl : i2 ≠ i3 := fun z => by rw [z, hl] at hj; exact ne3 (Option.some.inj hj).symm
  refine (ps_par3 g.cx.calm (by rw [g.cx.nn]; exact g.cx.nd) (by rw [g.cx.nn]; exact hi) (by rw [g.cx.nn]; exact hj) (by rw [g.cx.nn]; exact hl) hij hil hjl l1 l2 l3 ha (sws_3 g.cx.kind f c s1 s2 s3 ne ne2 ne3 n1 n2 n3) rfl).imp fun D σ H h => ?_
  obtain ⟨ρ, s, h, o, rs, S, e1, q⟩ := h
  simp only [ex] at e1
  split at e1
  · rename_i v h1 e2
    simp only [ev] at e2
    split at e2
    · rename_i ds h2 e3
      split at e2
      · cases e2
        split at e1
        · rename_i s3 h3 e4
          cases e1
          simp only [st] at e4
          refine ⟨ρ, s, h, ds, _, rs, S, e3, fun ρ1 H1 p1 k1 S1 vs r => ?_⟩
          cases ds with
          | nil => simp [sts] at e4
          | cons d ds =>
            cases ds with
            | nil => simp [sts, st] at e4
            | cons d2 ds =>
              cases ds with
              | nil => simp [sts, st] at e4
              | cons d3 ds =>
                cases ds with
                | cons d4 ds => simp [sts, st] at e4
                | nil =>
                  simp only [sts, st] at e4
                  cases e4
                  obtain ⟨u1, _, rfl, r1, u2, _, rfl, r2, u3, _, rfl, r3, rfl⟩ := r
                  exact ⟨u1, u2, u3, rfl, q ρ1 H1 p1 k1 S1 _ ((((rs.mono p1 k1).set r1 i1).set r2 i2).set r3 i3)⟩
        · cases e1
      · cases e2
    · cases e2
  · cases e1
theorem x_aug (g : CxS P w K mg base k N X sc) {i : Nat} {p : Prim} {e : Ex} {x : Str} {op : Operator} {v : Expr} {p2 pos : Pos} (hl : locB sc x = true) (hn : N[i]? = some x) (hp : (op = .Add ∧ p = .add) ∨ (op = .Sub ∧ p = .sub)) (he : PE X v (tI W K G cs e)) : PS X (.AugAssign (.Name x p2) op v pos) (tX W K G cs (.aug i p e)) := by
  obtain ⟨h1, h2⟩ := g.cx.loc x hl
  have key : ∀ {f : Int → Int → Int}, (∀ a b h, prim2 G p (.int a) (.int b) h = some (.int (f a b), h)) → ∀ D σ H, tX W K G cs (.aug i p e) D σ H → tAug i (tI W K G cs e) (ipI f) D σ H := fun {f} hf D σ H h => by
    obtain ⟨ρ, s, h, o, rs, S, e1, q⟩ := h
    simp only [ex] at e1
    split at e1
    · rename_i x e0
      split at e1
      · rename_i y h1 e2
        split at e1
        · rename_i a b
          rw [hf] at e1
          cases e1
          obtain ⟨vx, q1, r1⟩ := rs.get e0
          obtain rfl : vx = _ := r1
          refine ⟨_, q1, ρ, s, h, _, _, rs, S, e2, fun ρ1 H1 p1 k1 S1 u r => ?_⟩
          obtain rfl : u = _ := r
          exact ⟨a, b, rfl, rfl, q ρ1 H1 p1 k1 S1 _ (RelS.set (d := .int (f a b)) (v := .int (f a b)) rfl i (rs.mono p1 k1))⟩
        · cases e1
      · cases e1
    · cases e1
  rcases hp with ⟨rfl, rfl⟩ | ⟨rfl, rfl⟩
  · exact (ps_aug (by rw [g.cx.nn]; exact g.cx.nd) (by rw [g.cx.nn]; exact hn) h1 he ip_add h2).imp (key fun a b h => rfl)
  · exact (ps_aug (by rw [g.cx.nn]; exact g.cx.nd) (by rw [g.cx.nn]; exact hn) h1 he ip_sub h2).imp (key fun a b h => rfl)
theorem x_ite {t : Ts} {a b : Stms} {c : Expr} {la lb : List Stmt} {pos : Pos} (ht : PT X c (tTT W K G cs t)) (ha : PSs X la (tXs W K G cs a)) (hb : PSs X lb (tXs W K G cs b)) : PS X (.If c la lb pos) (tX W K G cs (.ite t a b)) :=
  (ps_if ht ha hb).imp fun D σ H h => by
    obtain ⟨ρ, s, h, o, rs, S, e1, q⟩ := h
    simp only [ex] at e1
    split at e1
    · rename_i h1 e2
      exact ⟨ρ, s, h, true, h1, rs, S, e2, fun ρ1 H1 p1 k1 S1 => iteT ⟨ρ1, s, h1, o, rs.mono p1 k1, S1, e1, q.mono p1 k1⟩⟩
    · rename_i h1 e2
      exact ⟨ρ, s, h, false, h1, rs, S, e2, fun ρ1 H1 p1 k1 S1 => iteF ⟨ρ1, s, h1, o, rs.mono p1 k1, S1, e1, q.mono p1 k1⟩⟩
    · cases e1
theorem x_whl (g : CxS P w K mg base k N X sc) {t : Ts} {b : Stms} {c : Expr} {lb : List Stmt} {pos : Pos} (ht : PT X c (tTT W K G cs t)) (hb : PSs X lb (tXs W K G cs b)) : PS X (.While c lb [] pos) (tX W K G cs (.whl t b)) :=
  (ps_while g.own ht hb).imp fun D σ H h => by
    obtain ⟨ρ, s, h, o, rs, S, e1, q⟩ := h
    simp only [ex] at e1
    refine ⟨fun m σ' H' => ∃ ρ' s' h', ρ <+: ρ' ∧ Keep K H H' ∧ RelS W K ρ' H' s' σ' ∧ Sim W K ρ' h' H' ∧ whileN (fun s h => evT G cs t s h) (fun s h => exs G cs b s h) m s' h' = some o, ⟨loopMax, ρ, s, h, List.prefix_refl _, Keep.refl, rs, S, e1⟩, ?_⟩
    rintro m σ' H' ⟨ρ', s', h', p', k', rs', S', e'⟩
    cases m with
    | zero => simp [whileN] at e'
    | succ m =>
      simp only [whileN] at e'
      split at e'
      · rename_i h1 e2
        refine ⟨ρ', s', h', true, h1, rs', S', e2, fun ρ1 H1 p1 k1 S1 => iteT ?_⟩
        refine ⟨fun σ3 H3 => ∃ ρ3 s3 h3, ρ <+: ρ3 ∧ Keep K H H3 ∧ RelS W K ρ3 H3 s3 σ3 ∧ Sim W K ρ3 h3 H3 ∧ whileN (fun s h => evT G cs t s h) (fun s h => exs G cs b s h) m s3 h3 = some o, fun σ3 H3 h3 => ⟨m, Nat.lt_succ_self _, h3⟩, ?_⟩
        split at e'
        · rename_i s2 h2 e3
          exact ⟨ρ1, s', h1, _, rs'.mono p1 k1, S1, e3, fun ρ2 H2 p2 k2 S2 σ2 rs2 => ⟨ρ2, s2, h2, (p'.trans p1).trans p2, (k'.trans k1).trans k2, rs2, S2, e'⟩⟩
        · rename_i s2 h2 e3
          exact ⟨ρ1, s', h1, _, rs'.mono p1 k1, S1, e3, fun ρ2 H2 p2 k2 S2 σ2 rs2 => ⟨ρ2, s2, h2, (p'.trans p1).trans p2, (k'.trans k1).trans k2, rs2, S2, e'⟩⟩
        · rename_i s2 h2 e3
          cases e'
          exact ⟨ρ1, s', h1, _, rs'.mono p1 k1, S1, e3, fun ρ2 H2 p2 k2 S2 σ2 rs2 => q ρ2 H2 ((p'.trans p1).trans p2) ((k'.trans k1).trans k2) S2 σ2 rs2⟩
        · rename_i v h2 e3
          cases e'
          exact ⟨ρ1, s', h1, _, rs'.mono p1 k1, S1, e3, RetD.mono q (p'.trans p1) (k'.trans k1)⟩
        · cases e'
      · rename_i h1 e2
        cases e'
        exact ⟨ρ', s', h', false, _, rs', S', e2, fun ρ1 H1 p1 k1 S1 => iteF (q ρ1 H1 (p'.trans p1) (k'.trans k1) S1 _ (rs'.mono p1 k1))⟩
      · cases e'
theorem x_for (g : CxS P w K mg base k N X sc) {it : It} {t : Tg} {b : Stms} {tg iter : Expr} {lb : List Stmt} {pos : Pos} (hi : PI X tg iter (tIt W K G cs it)) (hg : PG X tg (tTg W K G cs t)) (hb : PSs X lb (tXs W K G cs b)) (hs : ∀ x, foldedSetIterable iter X.env x = pure x) : PS X (.For tg iter lb [] pos) (tX W K G cs (.fo it t b)) :=
  (ps_for g.own g.cx.calm hi hg hb hs).imp fun D σ H h => by
    obtain ⟨ρ, s, h, o, rs, S, e1, q⟩ := h
    simp only [ex] at e1
    split at e1
    · rename_i xs gd h1 e2
      refine ⟨ρ, s, h, xs, gd, h1, rs, S, e2, fun ρ1 H1 p1 k1 S1 J wk => ?_⟩
      refine ⟨fun i m σ' H' => m = xs.length - i ∧ i ≤ xs.length ∧ ∃ ρ' s' h', ρ1 <+: ρ' ∧ Keep K H1 H' ∧ RelS W K ρ' H' s' σ' ∧ Sim W K ρ' h' H' ∧ forL gd (fun x s h => match st G cs t x s h with
        | some (s2, h2) => exs G cs b s2 h2
        | none => none) (xs.drop i) s' h' = some o, ⟨xs.length, by simp, Nat.zero_le _, ρ1, s, h1, List.prefix_refl _, Keep.refl, rs.mono p1 k1, S1, e1⟩, ?_⟩
      rintro i m σ' H' ⟨rfl, hle, ρ', s', h', p', k', rs', S', e'⟩
      by_cases hlt : i < xs.length
      · refine .inr ?_
        rw [drop_at hlt] at e'
        simp only [forL] at e'
        split at e'
        · rename_i hgk
          obtain ⟨go, yl⟩ := wk.go i H' ρ' h' hlt p' k' S' hgk
          refine ⟨go, fun σ3 H3 => ∃ ρ3 s3 h3, ρ1 <+: ρ3 ∧ Keep K H1 H3 ∧ RelS W K ρ3 H3 s3 σ3 ∧ Sim W K ρ3 h3 H3 ∧ forL gd _ (xs.drop (i + 1)) s3 h3 = some o, fun σ3 H3 ⟨ρ3, s3, h3, z1, z2, z3, z4, z5⟩ => ⟨xs.length - (i + 1), by omega, rfl, hlt, ρ3, s3, h3, z1, z2, z3, z4, z5⟩, fun x H4 hy => ?_⟩
          obtain ⟨k4, S4, dd, ed, rd⟩ := yl x H4 hy
          rw [List.getElem?_eq_getElem hlt] at ed
          cases ed
          split at e'
          · rename_i s2 h2 e3
            split at e3
            · rename_i s5 h5 e5
              exact ⟨ρ', s', h', _, s5, h5, rs'.mono (List.prefix_refl _) k4, S4, rd, e5, fun ρ5 H5 p5 k5 S5 σ5 rs5 _ => ⟨ρ5, s5, h5, _, rs5, S5, e3, fun ρ6 H6 p6 k6 S6 σ6 rs6 => ⟨ρ6, s2, h2, (p'.trans p5).trans p6, ((k'.trans k4).trans k5).trans k6, rs6, S6, e'⟩⟩⟩
            · cases e3
          · rename_i s2 h2 e3
            split at e3
            · rename_i s5 h5 e5
              exact ⟨ρ', s', h', _, s5, h5, rs'.mono (List.prefix_refl _) k4, S4, rd, e5, fun ρ5 H5 p5 k5 S5 σ5 rs5 _ => ⟨ρ5, s5, h5, _, rs5, S5, e3, fun ρ6 H6 p6 k6 S6 σ6 rs6 => ⟨ρ6, s2, h2, (p'.trans p5).trans p6, ((k'.trans k4).trans k5).trans k6, rs6, S6, e'⟩⟩⟩
            · cases e3
          · rename_i s2 h2 e3
            cases e'
            split at e3
            · rename_i s5 h5 e5
              exact ⟨ρ', s', h', _, s5, h5, rs'.mono (List.prefix_refl _) k4, S4, rd, e5, fun ρ5 H5 p5 k5 S5 σ5 rs5 _ => ⟨ρ5, s5, h5, _, rs5, S5, e3, fun ρ6 H6 p6 k6 S6 σ6 rs6 => q ρ6 H6 (p1.trans ((p'.trans p5).trans p6)) (k1.trans (((k'.trans k4).trans k5).trans k6)) S6 σ6 rs6⟩⟩
            · cases e3
          · rename_i v h2 e3
            cases e'
            split at e3
            · rename_i s5 h5 e5
              exact ⟨ρ', s', h', _, s5, h5, rs'.mono (List.prefix_refl _) k4, S4, rd, e5, fun ρ5 H5 p5 k5 S5 σ5 rs5 _ => ⟨ρ5, s5, h5, _, rs5, S5, e3, RetD.mono q (p1.trans (p'.trans p5)) (k1.trans ((k'.trans k4).trans k5))⟩⟩
            · cases e3
          · cases e'
        · cases e'
      · have hi2 : i = xs.length := by omega
        subst hi2
        rw [List.drop_length] at e'
        simp only [forL] at e'
        split at e'
        · rename_i hgk
          cases e'
          exact .inl ⟨wk.stop H' ρ' _ p' k' S' hgk, q ρ' H' (p1.trans p') (k1.trans k') S' _ rs'⟩
        · cases e'
    · cases e1
theorem xs_nil : PSs X [] (tXs W K G cs .nil) := pss_nil.imp fun D σ H h => by
  obtain ⟨ρ, s, h, o, rs, S, e1, q⟩ := h
  simp only [exs] at e1
  cases e1
  exact q.nx S rs
theorem xs_cons {c : Stm} {cc : Stms} {x : Stmt} {xs : List Stmt} (h1 : PS X x (tX W K G cs c)) (h2 : PSs X xs (tXs W K G cs cc)) : PSs X (x :: xs) (tXs W K G cs (.cons c cc)) := (pss_cons h1 h2).imp fun D σ H h => by
  obtain ⟨ρ, s, h, o, rs, S, e1, q⟩ := h
  simp only [exs] at e1
  split at e1
  · rename_i s2 h2 e2
    exact ⟨ρ, s, h, _, rs, S, e2, fun ρ1 H1 p1 k1 S1 σ1 rs1 => ⟨ρ1, s2, h2, o, rs1, S1, e1, q.mono p1 k1⟩⟩
  · rename_i hne
    refine ⟨ρ, s, h, o, rs, S, e1, ?_⟩
    cases o with
    | nx s2 h2 => exact absurd e1 (hne _ _)
    | rt v h2 => exact q
    | bk s2 h2 => exact q
    | ct s2 h2 => exact q
end
end Z
end

-- ZK
section
set_option Elab.async false
set_option linter.all false
set_option maxRecDepth 100000
set_option maxHeartbeats 4000000
/-! All statements. -/
namespace Z
open PySem L2 PySem.Spec PyProof.Rows
section
variable {P : Program} {w : World} {K : PySem.W.Frag} {mg : Str → Option Value} {base : Heap} {W : Pl} {G : GEnv} {E : CkE} {cs : CS} {k : Nat} {N : List Str} {X : Cx} {sc : Scope}
theorem sub_a1 {o i : Expr} {p : Pos} {env : Env} : (assignEach [.Subscript o i p] env).map (·.2) = [assign (.Subscript o i p) env] := rfl
theorem tup_a1 {l : List Expr} {j : Nat} {p : Pos} {env : Env} : (assignEach [.Tuple l j p] env).map (·.2) = [assign (.Tuple l j p) env] := rfl
theorem sub_sws {o i v : Expr} {p : Pos} {env : Env} : swappedStores [.Subscript o i p] v env = pure none := by cases v <;> rfl
theorem swS_sub {v o i : Expr} {l : Nat} {p : Pos} {env : Env} : swapsWithSole [.Subscript o i p] v l env = pure false := by cases v <;> rfl
theorem swS_tup {v : Expr} {es : List Expr} {j l : Nat} {p : Pos} {env : Env} : swapsWithSole [.Tuple es j p] v l env = pure false := by cases v <;> rfl
theorem es2 {es : Exs} {v1 v2 : Expr} {e1 e2 : Ex} (h : ckEs E N sc es [v1, v2] = true) (e : es = .cons e1 (.cons e2 .nil)) : ckEs E N sc (.cons e1 (.cons e2 .nil)) [v1, v2] = true := e ▸ h
theorem sndA (F : Fct P w K mg base W G E cs k) (t : Tg) (e : Ex) (x v : Expr) (pos : Pos) (sc : Scope) (X : Cx) (h : ckA E N sc t e x v = true) (g : CxS P w K mg base k N X sc) : PS X (.Assign [x] v pos) (tX W K G cs (.asg t e)) := by
  unfold ckA at h
  split at h
  · rename_i i
    split at h
    · rename_i y py
      simp only [Bool.and_eq_true, decide_eq_true_eq, Bool.or_eq_true] at h
      obtain ⟨⟨⟨h1, h2⟩, h3⟩, h4⟩ := h
      rcases h4 with h4 | h4
      · exact x_nm g F h1 h2 (sndE F e v sc X h3 g.cx) (sw_plain h4)
      · split at h4
        · rename_i elt tg iter l scope lpos
          simp only [Bool.or_eq_true, Bool.not_eq_true'] at h4
          by_cases hsw : lcSwap sc scope y py.line lpos.line = true
          · rcases h4 with h4 | h4
            · rw [hsw] at h4
              cases h4
            · split at h4
              · exact x_lc g F h2 hsw h3
              · cases h4
          · exact x_nm g F h1 h2 (sndE F e _ sc X h3 g.cx) (by rw [sw_lc g.cx.kind, g.sc]; simp only [Bool.not_eq_true] at hsw; rw [hsw])
        · rename_i elt tg iter tg1 iter1 scope lpos
          simp only [Bool.or_eq_true, Bool.not_eq_true'] at h4
          by_cases hsw : lcSwap sc scope y py.line lpos.line = true
          · rcases h4 with h4 | h4
            · rw [hsw] at h4
              cases h4
            · split at h4
              · exact x_lc2 g F h2 hsw h3
              · cases h4
          · exact x_nm g F h1 h2 (sndE F e _ sc X h3 g.cx) (by rw [sw_lc g.cx.kind, g.sc]; simp only [Bool.not_eq_true] at hsw; rw [hsw])
        · rename_i scope lpos _ _
          simp only [Bool.not_eq_true'] at h4
          exact x_nm g F h1 h2 (sndE F e _ sc X h3 g.cx) (by rw [sw_lc g.cx.kind, g.sc, h4])
        · cases h4
    · cases h
  · rename_i o f
    split at h
    · simp only [Bool.and_eq_true, decide_eq_true_eq] at h
      obtain ⟨⟨rfl, h2⟩, h3⟩ := h
      rw [F.nm]
      exact x_fld g F (sndE F e _ sc X h3 g.cx) (sndE F o _ sc X h2 g.cx)
    · cases h
  · split at h
    · simp only [Bool.and_eq_true] at h
      exact x_tgt g (sndE F e _ sc X h.2 g.cx) (sndG F _ _ sc X h.1 g.cx) swS_sub sub_sws sub_a1
    · cases h
  · split at h
    · rename_i l j p
      simp only [Bool.and_eq_true, Bool.or_eq_true] at h
      obtain ⟨⟨h1, h2⟩, h3⟩ := h
      rcases h3 with h3 | h3
      · exact x_tgt g (sndE F e _ sc X h2 g.cx) (sndG F _ _ sc X h1 g.cx) swS_tup (sws_none (by rw [g.sc]; exact h3)) tup_a1
      · simp only [ckG, Bool.and_eq_true] at h1
        split at h3
        · simp only [Bool.and_eq_true, decide_eq_true_eq, Bool.not_eq_true'] at h3
          obtain ⟨⟨⟨⟨⟨⟨q1, q2⟩, q3⟩, q4⟩, q5⟩, q6⟩, q7⟩ := h3
          simp only [ckGs, ckG, Bool.and_eq_true, decide_eq_true_eq] at h1
          simp only [ckE] at h2
          exact x_par g q1 q2 q3 q4 q5 q6 q7 h1.2.1.2.2 h1.2.2.1.2.2 (sndEs F _ _ sc X h2 g.cx)
        · simp only [Bool.and_eq_true, decide_eq_true_eq, Bool.not_eq_true'] at h3
          obtain ⟨⟨⟨⟨⟨⟨⟨⟨⟨⟨q1, q2⟩, q3⟩, q4⟩, q5⟩, q6⟩, q7⟩, q8⟩, q9⟩, q10⟩, q11⟩ := h3
          simp only [ckGs, ckG, Bool.and_eq_true, decide_eq_true_eq] at h1
          simp only [ckE] at h2
          exact x_par3 g q1 q2 q3 q4 q5 q6 q7 q8 q9 q10 q11 h1.2.1.2.2 h1.2.2.1.2.2 h1.2.2.2.1.2.2 (sndEs F _ _ sc X h2 g.cx)
        · cases h3
    · cases h
mutual
theorem sndS (F : Fct P w K mg base W G E cs k) : ∀ (c : Stm) (x : Stmt) (sc : Scope) (X : Cx), ckS E N sc c x = true → CxS P w K mg base k N X sc → PS X x (tX W K G cs c)
  | .never, x, sc, X, h, g => ps_never.imp fun D σ H h => by
    obtain ⟨ρ, s, h, o, rs, S, e1, q⟩ := h
    simp [ex] at e1
  | .pass, x, sc, X, h, g => by
    have hi : ∀ D σ H, tX W K G cs .pass D σ H → tNext D σ H := fun D σ H h => by
      obtain ⟨ρ, s, h, o, rs, S, e1, q⟩ := h
      simp only [ex] at e1
      cases e1
      exact q.nx S rs
    simp only [ckS] at h
    split at h
    · exact ps_pass.imp hi
    · exact ps_doc.imp hi
    · cases h
  | .brk, x, sc, X, h, g => by
    simp only [ckS] at h
    split at h
    · exact ps_break.imp fun D σ H h => by
        obtain ⟨ρ, s, h, o, rs, S, e1, q⟩ := h
        simp only [ex] at e1
        cases e1
        exact q ρ H (List.prefix_refl _) Keep.refl S σ rs
    · cases h
  | .cnt, x, sc, X, h, g => by
    simp only [ckS] at h
    split at h
    · exact ps_continue.imp fun D σ H h => by
        obtain ⟨ρ, s, h, o, rs, S, e1, q⟩ := h
        simp only [ex] at e1
        cases e1
        exact q ρ H (List.prefix_refl _) Keep.refl S σ rs
    · cases h
  | .retN, x, sc, X, h, g => by
    simp only [ckS] at h
    split at h
    · exact ps_retN.imp fun D σ H h => by
        obtain ⟨ρ, s, h, o, rs, S, e1, q⟩ := h
        simp only [ex] at e1
        cases e1
        exact q ρ H (List.prefix_refl _) Keep.refl S _ rfl
    · cases h
  | .ret e, x, sc, X, h, g => by
    simp only [ckS] at h
    split at h
    · exact (ps_ret (sndE F e _ sc X h g.cx)).imp fun D σ H h => by
        obtain ⟨ρ, s, h, o, rs, S, e1, q⟩ := h
        simp only [ex] at e1
        split at e1
        · rename_i v h1 e2
          cases e1
          exact ⟨ρ, s, h, v, h1, rs, S, e2, q⟩
        · cases e1
    · cases h
  | .exp e, x, sc, X, h, g => by
    simp only [ckS] at h
    split at h
    · simp only [Bool.and_eq_true] at h
      exact (ps_expr (sndE F e _ sc X h.2 g.cx) (sw_plain h.1)).imp fun D σ H h => by
        obtain ⟨ρ, s, h, o, rs, S, e1, q⟩ := h
        simp only [ex] at e1
        split at e1
        · rename_i v h1 e2
          cases e1
          exact ⟨ρ, s, h, v, h1, rs, S, e2, fun ρ1 H1 p1 k1 S1 u r => q ρ1 H1 p1 k1 S1 σ (rs.mono p1 k1)⟩
        · cases e1
    · cases h
  | .asg t e, x, sc, X, h, g => by
    simp only [ckS] at h
    split at h
    · exact sndA F t e _ _ _ sc X h g
    · cases h
  | .aug i p e, x, sc, X, h, g => by
    simp only [ckS] at h
    split at h
    · simp only [Bool.and_eq_true, decide_eq_true_eq] at h
      obtain ⟨⟨⟨h1, h2⟩, h3⟩, h4⟩ := h
      refine x_aug g h1 h2 ?_ (sndE F e _ sc X h4 g.cx)
      split at h3
      · exact .inl ⟨rfl, of_decide_eq_true h3⟩
      · exact .inr ⟨rfl, of_decide_eq_true h3⟩
      · cases h3
    · cases h
  | .ite t a b, x, sc, X, h, g => by
    simp only [ckS] at h
    split at h
    · simp only [Bool.and_eq_true] at h
      exact x_ite (sndT F t _ sc X h.1.1 g.cx) (sndSs F a _ sc X h.1.2 g) (sndSs F b _ sc X h.2 g)
    · cases h
  | .whl t b, x, sc, X, h, g => by
    simp only [ckS] at h
    split at h
    · simp only [Bool.and_eq_true] at h
      exact x_whl g (sndT F t _ sc X h.1 g.cx) (sndSs F b _ sc X h.2 g)
    · cases h
  | .fo it t b, x, sc, X, h, g => by
    simp only [ckS] at h
    split at h
    · simp only [Bool.and_eq_true] at h
      exact x_for g (sndI F it _ _ sc X h.1.1.2 g.cx) (sndG F t _ sc X h.1.2 g.cx) (sndSs F b _ sc X h.2 g) (set_of h.1.1.1)
    · cases h
theorem sndSs (F : Fct P w K mg base W G E cs k) : ∀ (c : Stms) (x : List Stmt) (sc : Scope) (X : Cx), ckSs E N sc c x = true → CxS P w K mg base k N X sc → PSs X x (tXs W K G cs c)
  | .nil, x, sc, X, h, g => by
    simp only [ckSs] at h
    split at h
    · exact xs_nil
    · cases h
  | .cons c cc, x, sc, X, h, g => by
    simp only [ckSs] at h
    split at h
    · simp only [Bool.and_eq_true] at h
      exact xs_cons (sndS F c _ sc X h.1 g) (sndSs F cc _ sc X h.2 g)
    · cases h
end
end
end Z
end

-- ZL
section
set_option Elab.async false
set_option linter.all false
set_option maxRecDepth 100000
set_option maxHeartbeats 4000000
/-! Calls: what is let go behind them; all defs by levels. -/
namespace Z
open PySem L2 PySem.Spec PyProof.Rows
section
variable {W : Pl} {K : PySem.W.Frag} {ρ ρ' : List Addr} {H H' : Hp}
/-! ### what leans on elder things alone -/
theorem take_get {n m : Nat} {a : Addr} (h : m < n) : (ρ'.take n)[m]? = ρ'[m]? := List.getElem?_take_of_lt h
mutual
theorem below_down {n : Nat} (e : ∀ m < n, ρ[m]? = ρ'[m]?) : ∀ (d : D) (v : V), below n d = true → RelI W K ρ' H d v → RelI W K ρ H d v
  | .non, v, _, r => r
  | .bl b, v, _, r => r
  | .int b, v, _, r => r
  | .str b, v, _, r => r
  | .tup xs, v, b, r => by
    obtain ⟨a, ys, rfl, q, r⟩ := r
    exact ⟨a, ys, rfl, q, belows_down e xs ys b r⟩
  | .ref m, v, b, r => by
    obtain ⟨a, rfl, ea⟩ := r
    exact ⟨a, rfl, by rw [e m (of_decide_eq_true b)]; exact ea⟩
  | .gd j, v, _, r => r
  | .rl xs, v, b, r => by
    obtain ⟨a, ys, rfl, q, r⟩ := r
    exact ⟨a, ys, rfl, q, belows_down e xs ys b r⟩
theorem belows_down {n : Nat} (e : ∀ m < n, ρ[m]? = ρ'[m]?) : ∀ (d : List D) (v : List V), belows n d = true → RelIs W K ρ' H d v → RelIs W K ρ H d v
  | [], v, _, r => r
  | x :: xs, v, b, r => by
    obtain ⟨y, yr, rfl, r1, r2⟩ := r
    simp only [belows, Bool.and_eq_true] at b
    exact ⟨y, yr, rfl, below_down e x y b.1 r1, belows_down e xs yr b.2 r2⟩
end
mutual
theorem below_of : ∀ (d : D) (v : V), RelI W K ρ H d v → below ρ.length d = true
  | .non, v, _ => rfl
  | .bl b, v, _ => rfl
  | .int b, v, _ => rfl
  | .str b, v, _ => rfl
  | .tup xs, v, r => by
    obtain ⟨a, ys, rfl, q, r⟩ := r
    exact belows_of xs ys r
  | .ref m, v, r => by
    obtain ⟨a, rfl, ea⟩ := r
    exact decide_eq_true (List.getElem?_eq_some_iff.mp ea).1
  | .gd j, v, _ => rfl
  | .rl xs, v, r => by
    obtain ⟨a, ys, rfl, q, r⟩ := r
    exact belows_of xs ys r
theorem belows_of : ∀ (d : List D) (v : List V), RelIs W K ρ H d v → belows ρ.length d = true
  | [], v, _ => rfl
  | x :: xs, v, r => by
    obtain ⟨y, yr, rfl, r1, r2⟩ := r
    simp only [belows, Bool.and_eq_true]
    exact ⟨below_of x y r1, belows_of xs yr r2⟩
end
theorem belowK_down {κ : Type} {n : Nat} (e : ∀ m < n, ρ[m]? = ρ'[m]?) : ∀ (d : List (κ × D)) (v : List (κ × V)), belows n (d.map (·.2)) = true → RelK W K ρ' H d v → RelK W K ρ H d v
  | [], v, _, r => r
  | (k, x) :: xs, v, b, r => by
    obtain ⟨y, yr, rfl, r1, r2⟩ := r
    simp only [List.map_cons, belows, Bool.and_eq_true] at b
    exact ⟨y, yr, rfl, below_down e x y b.1 r1, belowK_down e xs yr b.2 r2⟩
theorem belowK_of {κ : Type} : ∀ (d : List (κ × D)) (v : List (κ × V)), RelK W K ρ H d v → belows ρ.length (d.map (·.2)) = true
  | [], v, _ => rfl
  | (k, x) :: xs, v, r => by
    obtain ⟨y, yr, rfl, r1, r2⟩ := r
    simp only [List.map_cons, belows, Bool.and_eq_true]
    exact ⟨below_of x y r1, belowK_of xs yr r2⟩
theorem belowF_down {n : Nat} (e : ∀ m < n, ρ[m]? = ρ'[m]?) : ∀ (d : List (Nat × D)) (v : List (Str × V)), belows n (d.map (·.2)) = true → RelF W K ρ' H d v → RelF W K ρ H d v
  | [], v, _, r => r
  | (k, x) :: xs, v, b, r => by
    obtain ⟨y, yr, rfl, r1, r2⟩ := r
    simp only [List.map_cons, belows, Bool.and_eq_true] at b
    exact ⟨y, yr, rfl, below_down e x y b.1 r1, belowF_down e xs yr b.2 r2⟩
theorem belowF_of : ∀ (d : List (Nat × D)) (v : List (Str × V)), RelF W K ρ H d v → belows ρ.length (d.map (·.2)) = true
  | [], v, _ => rfl
  | (k, x) :: xs, v, r => by
    obtain ⟨y, yr, rfl, r1, r2⟩ := r
    simp only [List.map_cons, belows, Bool.and_eq_true]
    exact ⟨below_of x y r1, belowF_of xs yr r2⟩
theorem belowO_down {n : Nat} {a : Addr} (e : ∀ m < n, ρ[m]? = ρ'[m]?) {o : O} (b : belowO n o = true) (r : RelO W K ρ' H a o) : RelO W K ρ H a o := by
  cases o with
  | lst xs => obtain ⟨ys, q, r⟩ := r; exact ⟨ys, q, belows_down e _ _ b r⟩
  | dK xs => obtain ⟨ys, q, r⟩ := r; exact ⟨ys, q, belowK_down e _ _ b r⟩
  | dT xs => obtain ⟨ys, q, r⟩ := r; exact ⟨ys, q, belowK_down e _ _ b r⟩
  | ins c fs => obtain ⟨dx, ys, q, r⟩ := r; exact ⟨dx, ys, q, belowF_down e _ _ b r⟩
theorem belowO_of {a : Addr} {o : O} (r : RelO W K ρ H a o) : belowO ρ.length o = true := by
  cases o with
  | lst xs => obtain ⟨ys, q, r⟩ := r; exact belows_of _ _ r
  | dK xs => obtain ⟨ys, q, r⟩ := r; exact belowK_of _ _ r
  | dT xs => obtain ⟨ys, q, r⟩ := r; exact belowK_of _ _ r
  | ins c fs => obtain ⟨dx, ys, q, r⟩ := r; exact belowF_of _ _ r
theorem zip_get {α β : Type} : ∀ {l : List α} {m : List β} {i : Nat} {a : α} {b : β}, l[i]? = some a → m[i]? = some b → (a, b) ∈ l.zip m
  | [], m, i, a, b, h, _ => by simp at h
  | x :: l, [], i, a, b, _, h => by simp at h
  | x :: l, y :: m, 0, a, b, h, h2 => by
    simp at h h2
    subst h h2
    exact List.mem_cons_self
  | x :: l, y :: m, i + 1, a, b, h, h2 => List.mem_cons_of_mem _ (zip_get (l := l) (m := m) (i := i) (by simpa using h) (by simpa using h2))
/-- the elder things, by themselves -/
theorem Sim.elder {h h1 : Hh} (S : Sim W K ρ h H) (S1 : Sim W K ρ' h1 H') (p : ρ <+: ρ') (k : Keep K H H') (st : stable h.length h h1 = true) : Sim W K ρ (h1.take h.length) H' := by
  have hl : h.length ≤ h1.length := by
    rw [← S.len, ← S1.len]
    exact p.length_le
  have e : ∀ m < h.length, ρ[m]? = ρ'[m]? := fun m hm => by
    have : m < ρ.length := by rw [S.len]; exact hm
    rw [List.getElem?_eq_getElem this]
    exact (pre_get p (List.getElem?_eq_getElem this)).symm
  refine ⟨by rw [S.len, List.length_take]; omega, S.nd, fun n o a e1 e2 => ?_⟩
  have hn : n < h.length := by
    have := (List.getElem?_eq_some_iff.mp e1).1
    rw [List.length_take] at this
    omega
  rw [List.getElem?_take_of_lt hn] at e1
  have r1 := S1.at_ n o a e1 (pre_get p e2)
  have hm := zip_get (List.getElem?_eq_getElem hn) e1
  have hs := List.all_eq_true.mp st _ hm
  simp only [Bool.or_eq_true, decide_eq_true_eq] at hs
  rcases hs with hs | hs
  · have r0 := S.at_ n h[n] a (List.getElem?_eq_getElem hn) e2
    have b := belowO_of r0
    rw [S.len, hs] at b
    exact belowO_down e b r1
  · exact belowO_down e hs r1
/-- behind a call -/
theorem gc_ok {h h1 : Hh} {v : D} {Pv : List Addr → Hp → Prop} {u : V} (S : Sim W K ρ h H) (S1 : Sim W K ρ' h1 H') (p : ρ <+: ρ') (k : Keep K H H') (r : RelI W K ρ' H' v u) : ∃ ρ2, ρ <+: ρ2 ∧ Sim W K ρ2 (gc h (v, h1)).2 H' ∧ RelI W K ρ2 H' (gc h (v, h1)).1 u := by
  unfold gc
  have e : ∀ m < h.length, ρ[m]? = ρ'[m]? := fun m hm => by
    have : m < ρ.length := by rw [S.len]; exact hm
    rw [List.getElem?_eq_getElem this]
    exact (pre_get p (List.getElem?_eq_getElem this)).symm
  by_cases hst : stable h.length h h1 = true
  · simp only [hst, if_true]
    have S2 := S.elder S1 p k hst
    by_cases hb : below h.length v = true
    · simp only [hb, if_true]
      exact ⟨ρ, List.prefix_refl _, S2, below_down e v u hb r⟩
    · simp only [hb, Bool.false_eq_true, if_false]
      cases v with
      | ref a =>
        simp only
        obtain ⟨x, rfl, ea⟩ := r
        cases q : h1[a]? with
        | none => exact ⟨ρ', p, S1, x, rfl, ea⟩
        | some o =>
          simp only
          by_cases ho : belowO h.length o = true
          · simp only [ho, if_true]
            have ha : ¬ a < h.length := fun z => hb (decide_eq_true z)
            have hx : x ∉ ρ := fun hm => by
              obtain ⟨n, hn, en⟩ := List.getElem_of_mem hm
              have q1 : ρ'[n]? = some x := pre_get p (by rw [List.getElem?_eq_getElem hn, en])
              obtain ⟨h1', z1⟩ := List.getElem?_eq_some_iff.mp q1
              obtain ⟨h2', z2⟩ := List.getElem?_eq_some_iff.mp ea
              have : n = a := (List.getElem_inj S1.nd).mp (z1.trans z2.symm)
              rw [S.len] at hn
              omega
            have hlt : (h1.take h.length).length = h.length := by
              have : h.length ≤ h1.length := by rw [← S.len, ← S1.len]; exact p.length_le
              rw [List.length_take]; omega
            have e' : ∀ m < h.length, (ρ ++ [x])[m]? = ρ'[m]? := fun m hm => by
              rw [List.getElem?_append_left (by rw [S.len]; exact hm)]
              exact e m hm
            refine ⟨ρ ++ [x], List.prefix_append _ _, ⟨by simp [S2.len], ?_, fun n o' b e1 e2 => ?_⟩, x, rfl, by rw [← S.len]; simp⟩
            · rw [List.nodup_append]
              refine ⟨S.nd, by simp, fun y hy z hz => ?_⟩
              have : z = x := by simpa using hz
              subst this
              exact fun w => hx (w ▸ hy)
            · by_cases hn : n < h.length
              · rw [List.getElem?_append_left (by rw [hlt]; exact hn)] at e1
                rw [List.getElem?_append_left (by rw [S.len]; exact hn)] at e2
                have r2 := S2.at_ n o' b e1 e2
                have hu := r2.there
                exact r2.mono (List.prefix_append _ _) Keep.refl rfl
              · have hn' : n = h.length := by
                  have := (List.getElem?_eq_some_iff.mp e2).1
                  simp [S.len] at this
                  omega
                subst hn'
                rw [List.getElem?_append_right (by rw [hlt]; exact Nat.le_refl _), hlt] at e1
                rw [List.getElem?_append_right (by rw [S.len]; exact Nat.le_refl _), S.len] at e2
                simp at e1 e2
                subst e1 e2
                exact belowO_down e' ho (S1.at_ a o x q ea)
          · simp only [ho, Bool.false_eq_true, if_false]
            exact ⟨ρ', p, S1, x, rfl, ea⟩
      | _ => exact ⟨ρ', p, S1, r⟩
  · simp only [hst, Bool.false_eq_true, if_false]
    exact ⟨ρ', p, S1, r⟩
theorem RetD.gc {h h1 : Hh} {v : D} {Q : VK} (S : Sim W K ρ h H) (q : RetD W K ρ H (Z.gc h (v, h1)).1 (Z.gc h (v, h1)).2 Q) : RetD W K ρ H v h1 Q := fun ρ' H' p k S1 u r => by
  obtain ⟨ρ2, p2, S2, r2⟩ := gc_ok (Pv := fun _ _ => True) S S1 p k r
  exact q ρ2 H' p2 k S2 u r2
end
/-! ### all defs -/
/-- a def of the text -/
structure DefT where
  x : Str
  qual : Str
  args : Arguments
  body : List Stmt
  scope : Scope
  N : List Str
  ps : List Str
  ir : Stms
def DefT.fn (d : DefT) : Fn := ⟨d.ps.length, d.N.length, d.ir⟩
def prgOf (l : List DefT) (f : Nat) : Option Fn := (l[f]?).map DefT.fn
def scopeB (d : DefT) : Bool := (d.scope.kind == .function) && !d.scope.isCoroutine && !d.scope.isGenerator && decide d.N.Nodup && decide (d.N.take d.ps.length = d.ps) && d.ps.all (fun x => d.scope.names.lookup x == some .local || d.scope.names.lookup x == some .cell) && d.scope.names.all (fun y => !(y.2 == .free))
theorem scope_ok {d : DefT} (h : scopeB d = true) : FnScope d.N d.ps d.scope := by
  simp only [scopeB, Bool.and_eq_true, decide_eq_true_eq, List.all_eq_true, Bool.or_eq_true, beq_iff_eq, Bool.not_eq_true', beq_eq_false_iff_ne] at h
  obtain ⟨⟨⟨⟨⟨⟨h1, h2⟩, h3⟩, h4⟩, h5⟩, h6⟩, h7⟩ := h
  exact ⟨h1, h2, h3, h4, h5, h6, h7⟩
/-- what stands behind the top, for all levels -/
structure Bs (P : Program) (w : World) (K : PySem.W.Frag) (mg : Str → Option Value) (W : Pl) (G : GEnv) (E : CkE) (T : List DefT) (fa : Nat → Addr) (fd : Nat → FuncData) : Prop where
  defs : ∀ (f : Nat) (d : DefT), T[f]? = some d → FunD K d.x d.qual d.args d.body d.scope [] [] (fa f) (fd f) ∧ Binds K (fd f) d.ps [] ∧ scopeB d = true ∧ ckSs E d.N d.scope d.ir d.body = true
  glf : ∀ f, f < E.nf → f < T.length ∧ mg (E.fnm f) = some (.ref (fa f))
  mkr : ∀ c, c < E.nc → G.ini c < T.length ∧ mg (E.cnm c) = some (.ref (W.cl c)) ∧ Mk K (W.cl c) (fa (G.ini c))
  mth : ∀ c m f, G.mth c m = some f → f < T.length ∧ Cls K (W.cl c) ∧ Meth K (W.cl c) (W.nm m) (fa f)
  fld : ∀ c f, G.fld c f = true → Cls K (W.cl c) ∧ NoAttr K (W.cl c) (W.nm f)
  glo : ∀ g, g < E.ng → ∃ v u, mg (E.gnm g) = some u ∧ RelV v u ∧ ∀ ρ H, RelI W K ρ H (G.glo g) v
  free : ∀ x, x ∈ E.free → mg x = none
  gcd : E.gcd = true → mg "gcd" = some (.builtin "math.gcd")
  inj : ∀ i j, W.nm i = W.nm j → i = j
  nm : E.nm = W.nm
  wd : WdOk W K P w G
  isc : ∀ c, c ∈ E.isc → mg (E.cnm c) = some (.ref (W.cl c)) ∧ IsC K (W.cl c)
section
variable {P : Program} {w : World} {K : PySem.W.Frag} {mg : Str → Option Value} {base : Heap} {W : Pl} {G : GEnv} {E : CkE} {T : List DefT} {fa : Nat → Addr} {fd : Nat → FuncData}
theorem run_len {cs : CS} {f : Fn} {vs : List D} {h : Hh} {r : D × Hh} (e : run G cs f vs h = some r) : vs.length = f.np := by
  unfold run at e
  split at e
  · assumption
  · cases e
theorem sem_len {n f : Nat} {d : DefT} (hd : T[f]? = some d) {ds : List D} {h : Hh} {r : D × Hh} (e : (sem G (prgOf T) n).fn f ds h = some r) : ds.length = d.ps.length := by
  cases n with
  | zero => simp [sem] at e
  | succ n =>
    simp only [sem, prgOf, hd, Option.map_some] at e
    exact run_len e
theorem cxs_of {k : Nat} {d : DefT} {f : Addr} {cdv : Value} {A : Around} {outer : List Env} {s : Shared} {H : Hp} {e : XK} (S : FnScope d.N d.ps d.scope) (hr : Room (k + 1) (A.deeper (envOfC d.qual d.scope s.heap.objs.size f cdv))) : CxS P w K mg base k d.N (cxOf CX0 P w K mg base d.N d.qual d.scope f cdv A outer s H e).nox d.scope where
  cx := {
    prog := rfl
    wo := rfl
    kk := rfl
    mm := rfl
    ba := rfl
    nn := rfl
    nd := S.nd
    calm := rfl
    room := hr
    kind := S.kind
    vis := fun x hx => by
      unfold visB at hx
      split at hx
      · rename_i e; exact .inl e
      · rename_i e; exact .inr (.inl e)
      · rename_i e; exact .inr (.inr e)
      · cases hx
    loc := fun x hx => by
      unfold locB at hx
      split at hx
      · rename_i e; exact ⟨.inl e, .inl rfl⟩
      · rename_i e; exact ⟨.inr e, .inl rfl⟩
      · cases hx
    fre := fun x hx => by
      unfold freB at hx
      split at hx
      · rename_i e; exact .inl e
      · rename_i e; exact .inr e
      · cases hx
    glob := fun x hx => by
      unfold globB at hx
      split at hx
      · rename_i e; exact e
      · cases hx }
  sc := rfl
  own := PassesOwn.never
theorem fn_ok (B : Bs P w K mg W G E T fa fd) : ∀ n, (∀ (f : Nat) (d : DefT), T[f]? = some d → FnOk P w K mg base CX0 (n + 1) (fa f) (fd f) d.ps (spI W K d.ps.length ((sem G (prgOf T) n).fn f))) ∧ Fct P w K mg base W G E (sem G (prgOf T) n) n := by
  have len : ∀ {n : Nat} {g : List D → Hh → Option (D × Hh)} vs H Q E, spI W K n g vs H Q E → vs.length = n := fun vs H Q E h => by
    obtain ⟨ρ, ds, h, d, h', S, r, e, hl, q⟩ := h
    rw [← r.length, hl]
  have low : ∀ (k : Nat) (f : Addr) (fd : FuncData) (ps : List Str), FnOk P w K mg base CX0 k f fd ps (spI W K ps.length fun _ _ => none) := fun k f fd ps => ⟨len, fun A outer s H args us vs Q E hr he hb hv hs => by
    obtain ⟨ρ, ds, h, d, h', S, r, e, hl, q⟩ := hs
    cases e⟩
  have fct : ∀ n, (∀ (f : Nat) (d : DefT), T[f]? = some d → FnOk P w K mg base CX0 (n + 1) (fa f) (fd f) d.ps (spI W K d.ps.length ((sem G (prgOf T) n).fn f))) →
      (∀ (f : Nat) (d : DefT), T[f]? = some d → FnOk P w K mg base CX0 n (fa f) (fd f) d.ps (spI W K d.ps.length ((sem G (prgOf T) n).mi f))) → (∀ (f : Nat) (d : DefT), T[f]? = some d → ∀ ds h r, (sem G (prgOf T) n).mi f ds h = some r → ds.length = d.ps.length) → Fct P w K mg base W G E (sem G (prgOf T) n) n := fun n h1 h2 h3 => by
    have some_of : ∀ f, f < T.length → ∃ d, T[f]? = some d := fun f hf => ⟨T[f], List.getElem?_eq_getElem hf⟩
    refine ⟨fun f hf => ?_, fun c hc => ?_, fun c m f hm => ?_, B.fld, B.glo, B.free, B.gcd, B.inj, B.nm, B.wd, B.isc⟩
    · obtain ⟨g1, g2⟩ := B.glf f hf
      obtain ⟨d, hd⟩ := some_of f g1
      obtain ⟨q1, q2, q3, q4⟩ := B.defs f d hd
      exact ⟨fa f, fd f, d.ps, h1 f d hd, g2, q1.kp, q2, fun ds h r e => sem_len hd e⟩
    · obtain ⟨g1, g2, g3⟩ := B.mkr c hc
      obtain ⟨d, hd⟩ := some_of _ g1
      obtain ⟨q1, q2, q3, q4⟩ := B.defs _ d hd
      exact ⟨fa (G.ini c), fd (G.ini c), d.ps, g2, g3, q2, h2 _ d hd, h3 _ d hd⟩
    · obtain ⟨g1, g2, g3⟩ := B.mth c m f hm
      obtain ⟨d, hd⟩ := some_of _ g1
      obtain ⟨q1, q2, q3, q4⟩ := B.defs _ d hd
      exact ⟨fa f, fd f, d.ps, g2, g3, q2, h1 f d hd, fun ds h r e => sem_len hd e⟩
  intro n
  induction n with
  | zero =>
    have a : ∀ (f : Nat) (d : DefT), T[f]? = some d → FnOk P w K mg base CX0 1 (fa f) (fd f) d.ps (spI W K d.ps.length ((sem G (prgOf T) 0).fn f)) := fun f d hd => low 1 _ _ _
    exact ⟨a, fct 0 a (fun f d hd => low 0 _ _ _) fun f d hd ds h r e => by simp [sem] at e⟩
  | succ n ih =>
    obtain ⟨ih1, ih2⟩ := ih
    have a : ∀ (f : Nat) (d : DefT), T[f]? = some d → FnOk P w K mg base CX0 (n + 1 + 1) (fa f) (fd f) d.ps (spI W K d.ps.length ((sem G (prgOf T) (n + 1)).fn f)) := fun f d hd => by
      obtain ⟨q1, q2, q3, q4⟩ := B.defs f d hd
      have S := scope_ok q3
      refine q1.ok S len fun cdv A outer s H vs Q E' hr hs => ⟨tXs W K G (sem G (prgOf T) n) d.ir, PSs.nox (sndSs ih2 d.ir d.body d.scope _ q4 (cxs_of S hr)), ?_⟩
      obtain ⟨ρ, ds, h, dd, h', SS, r, e, hl, q⟩ := hs
      simp only [sem, prgOf, hd, Option.map_some] at e
      unfold run at e
      split at e
      · rename_i hlen
        have rs : RelS W K ρ H (startD d.fn.nn ds) (L2.start d.N vs) := by
          have := RelS.start r d.N.length
          exact this
        split at e
        · rename_i v h1 e1
          simp only [Option.some.injEq] at e
          refine ⟨ρ, _, h, _, rs, SS, e1, ?_⟩
          exact RetD.gc SS (by rw [e]; exact q)
        · rename_i s1 h1 e1
          simp only [Option.some.injEq] at e
          refine ⟨ρ, _, h, _, rs, SS, e1, ?_⟩
          have q' : RetD W K ρ H .non h1 Q := RetD.gc SS (by rw [e]; exact q)
          exact fun ρ' H' p k S1 σ' rs' => q' ρ' H' p k S1 .non rfl
        · cases e
      · cases e
    exact ⟨a, fct (n + 1) a (fun f d hd => ih1 f d hd) fun f d hd ds h r e => sem_len hd e⟩
end
end Z
end

-- ZM
section
set_option Elab.async false
set_option linter.all false
set_option maxRecDepth 100000
set_option maxHeartbeats 4000000
/-! The facts behind the top, a law's end. -/
namespace Z
open PySem L2 PySem.Spec PyProof.Rows
structure Cfg where
  T : List DefT
  at_ : List (Str × Option Str)
  nf : Nat
  cn : List Str
  ini : List Nat
  gn : List (Str × D)
  nmL : List Str
  mth : List ((Nat × Nat) × Nat)
  fld : List (Nat × Nat)
  free : List Str
  gcd : Bool
  isc : List Nat
  wd : List (Str × List (Int × Str))
/-- a name that no text has -/
def odd (i : Nat) : Str := ⟨(List.replicate (1000 + i) 0).toArray⟩
def nmOf (l : List Str) (i : Nat) : Str := match l[i]? with
  | some x => x
  | none => odd i
theorem odd_size (i : Nat) : (odd i).cps.size = 1000 + i := by simp [odd]
theorem nm_inj {l : List Str} (h1 : l.Nodup) (h2 : l.all (fun x => decide (x.cps.size < 1000)) = true) (i j : Nat) (e : nmOf l i = nmOf l j) : i = j := by
  have small : ∀ {i : Nat} {x : Str}, l[i]? = some x → x.cps.size < 1000 := fun {i x} q => of_decide_eq_true (List.all_eq_true.mp h2 x (List.mem_of_getElem? q))
  unfold nmOf at e
  cases hi : l[i]? with
  | none =>
    cases hj : l[j]? with
    | none =>
      simp only [hi, hj] at e
      have := congrArg (fun x : Str => x.cps.size) e
      simp only [odd_size] at this
      omega
    | some y =>
      simp only [hi, hj] at e
      have := small hj
      rw [← e, odd_size] at this
      omega
  | some x =>
    cases hj : l[j]? with
    | none =>
      simp only [hi, hj] at e
      have := small hi
      rw [e, odd_size] at this
      omega
    | some y =>
      simp only [hi, hj] at e
      subst e
      obtain ⟨a, b⟩ := List.getElem?_eq_some_iff.mp hi
      obtain ⟨c, d⟩ := List.getElem?_eq_some_iff.mp hj
      exact (List.getElem_inj h1).mp (b.trans d.symm)
def wdOf (l : List (Int × Str)) : List (Key × D) := l.map fun q => (Sum.inl q.1, .str q.2)
namespace Cfg
def G (c : Cfg) : GEnv where
  glo := fun g => match c.gn[g]? with
    | some q => q.2
    | none => .non
  wd := fun j => match c.wd[j]? with
    | some q => wdOf q.2
    | none => []
  mth := fun i m => c.mth.lookup (i, m)
  fld := fun i f => c.fld.contains (i, f)
  ini := fun i => c.ini.getD i 0
def E (c : Cfg) : CkE where
  fnm := fun f => (c.at_.getD f ("", none)).1
  nf := c.nf
  cnm := fun i => c.cn.getD i ""
  nc := c.ini.length
  gnm := fun g => match c.gn[g]? with
    | some q => q.1
    | none => ""
  ng := c.gn.length
  nm := nmOf c.nmL
  free := c.free
  gcd := c.gcd
  isc := c.isc
def W (c : Cfg) (K : PySem.W.Frag) : Pl where
  nm := nmOf c.nmL
  cl := fun i => He.ga K (c.cn.getD i "")
  wa := fun j => match c.wd[j]? with
    | some q => He.ga K q.1
    | none => 0
def fn (c : Cfg) : List He.DefD := (c.T.zip c.at_).map fun q => ⟨q.2, q.1.x, q.1.qual, q.1.args, q.1.body, q.1.scope, [], []⟩
end Cfg
/-! ### checks of what stands behind the top -/
def keyIS (e : DictEntry) : Option (Int × Int × Str) := match e.key, e.val with
  | .int i _, .str s _ => some (i, e.hash, s)
  | _, _ => none
def wdB (K : PySem.W.Frag) (x : Str) (l : List (Int × Str)) : Bool := match K.lookup (He.ga K x) with
  | some ⟨.type c, none, .dict es _, sl⟩ => decide (c = "dict") && sl.isEmpty && decide (es.toList.map keyIS = l.map fun q => some (q.1, hashInt q.1, q.2)) && decide (l.map (·.1)).Nodup
  | _ => false
mutual
def gloV (c : Cfg) (K : PySem.W.Frag) : D → Value → Bool
  | .int i, .int j _ => decide (j = i)
  | .str i, .str j _ => decide (j = i)
  | .bl i, .bool j => decide (j = i)
  | .non, .none => true
  | .gd j, .ref a => (match c.wd[j]? with
    | some q => decide (a = He.ga K q.1)
    | none => false)
  | .tup xs, .ref a => (match K.lookup a with
    | some ⟨.type t, _, .seq its _, _⟩ => decide (t = "tuple") && decide (its.size ≤ sizeLine) && gloVs c K xs its.toList
    | _ => false)
  | _, _ => false
def gloVs (c : Cfg) (K : PySem.W.Frag) : List D → List Value → Bool
  | [], [] => true
  | x :: xs, u :: us => gloV c K x u && gloVs c K xs us
  | _, _ => false
end
def gloB (c : Cfg) (K : PySem.W.Frag) (x : Str) (d : D) : Bool := match PySem.W.nsIn K mainGlobals x with
  | some (some u) => gloV c K d u
  | _ => false
def iscB (K : PySem.W.Frag) (x : Str) : Bool := (He.Fa.cls x).ok K && He.eqO (PySem.W.findIn K (.ref (He.ga K x)) "__class__") (some (some (.builtin "object.__class__"))) &&
  He.eqO (PySem.W.specialIn K (.builtin "object.__class__") "__get__") (some (some (.builtin "getset_descriptor.__get__"))) && decide (PySem.W.takesIn K (.builtin "object.__class__") = some true) &&
  decide (PySem.W.mroIn K (He.ga K x) (.type "object") = some true) && decide (PySem.W.kitOne K (.ref (He.ga K x)) (.ref (He.ga K x)) = some true) &&
  (["NoneType", "bool", "int", "str", "tuple", "list", "dict"] : List String).all (fun t => PySem.W.kitOne K (.type t) (.ref (He.ga K x)) == some false)
def Cfg.ex (c : Cfg) (K : PySem.W.Frag) : Bool :=
  c.cn.all (fun x => (He.Fa.glo x).ok K) && ((List.range c.nf).all fun f => (He.Fa.glo (c.at_.getD f ("", none)).1).ok K) &&
  ((List.range c.ini.length).all fun i => (He.Fa.mkr (c.cn.getD i "")).ok K) &&
  c.mth.all (fun q => (He.Fa.cls (c.cn.getD q.1.1 "")).ok K && (He.Fa.meth (c.cn.getD q.1.1 "") (nmOf c.nmL q.1.2)).ok K) &&
  c.fld.all (fun q => (He.Fa.cls (c.cn.getD q.1 "")).ok K && (He.Fa.noat (c.cn.getD q.1 "") (nmOf c.nmL q.2)).ok K) &&
  c.gn.all (fun q => gloB c K q.1 q.2) && c.free.all (fun x => (He.Fa.free x).ok K) &&
  (!c.gcd || He.eqO (PySem.W.nsIn K mainGlobals "gcd") (some (some (.builtin "math.gcd")))) && c.isc.all (fun i => (He.Fa.glo (c.cn.getD i "")).ok K && iscB K (c.cn.getD i "")) &&
  c.wd.all (fun q => wdB K q.1 q.2)
/-- .. by the text alone -/
def Cfg.pure (c : Cfg) : Bool := decide c.nmL.Nodup && c.nmL.all (fun x => decide (x.cps.size < 1000)) && decide (c.T.length = c.at_.length) && decide (c.nf ≤ c.T.length ∧ c.ini.length ≤ c.cn.length) &&
  ((List.range c.nf).all fun f => (c.at_.getD f ("", none)).2.isNone) &&
  ((List.range c.ini.length).all fun i => decide (c.ini.getD i 0 < c.T.length) && decide (c.at_[c.ini.getD i 0]? = some (c.cn.getD i "", some ("__init__" : Str)))) &&
  c.mth.all (fun q => decide (q.2 < c.T.length) && decide (c.at_[q.2]? = some (c.cn.getD q.1.1 "", some (nmOf c.nmL q.1.2))))
/-- every parameter is given -/
def BindOk (d : DefT) : Prop := ∀ (kV doc pm : Value) (an : Option Addr) (cdv ct : Value) (us : List Value), us.length = d.ps.length → bindArgs (PySem.W.fnOf d.x d.qual d.args d.body d.scope .none kV doc pm an cdv ct) ⟨us, []⟩ = Pure.pure (d.ps.zip us)
inductive AllT (Pr : DefT → Prop) : List DefT → Prop
  | nil : AllT Pr []
  | cons {d : DefT} {l : List DefT} : Pr d → AllT Pr l → AllT Pr (d :: l)
theorem AllT.get {Pr : DefT → Prop} : ∀ {l : List DefT} {i : Nat} {d : DefT}, AllT Pr l → l[i]? = some d → Pr d
  | [], i, d, _, h => by simp at h
  | x :: l, 0, d, .cons h _, e => by simp at e; subst e; exact h
  | x :: l, i + 1, d, .cons _ h, e => AllT.get (i := i) h (by simpa using e)
section
variable {c : Cfg} {P : Program} {w : World} {K : PySem.W.Frag} {mg : Str → Option Value} {h : Heap}
mutual
theorem gloV_ok : ∀ (d : D) (u : Value), gloV c K d u = true → ∃ v, RelV v u ∧ ∀ ρ H, RelI (c.W K) K ρ H d v
  | .int i, u, h => by
    cases u <;> simp only [gloV] at h <;> first | (cases h; done) | skip
    rename_i j t
    exact ⟨.int i, ⟨t, by rw [of_decide_eq_true h]⟩, fun _ _ => rfl⟩
  | .str i, u, h => by
    cases u <;> simp only [gloV] at h <;> first | (cases h; done) | skip
    rename_i j t
    exact ⟨.str i, ⟨t, by rw [of_decide_eq_true h]⟩, fun _ _ => rfl⟩
  | .bl i, u, h => by
    cases u <;> simp only [gloV] at h <;> first | (cases h; done) | skip
    exact ⟨.bl i, by rw [of_decide_eq_true h]; rfl, fun _ _ => rfl⟩
  | .non, u, h => by
    cases u <;> simp only [gloV] at h <;> first | (cases h; done) | skip
    exact ⟨.non, rfl, fun _ _ => rfl⟩
  | .gd j, u, h => by
    cases u <;> simp only [gloV] at h <;> first | (cases h; done) | skip
    rename_i a
    split at h
    · rename_i q hq
      refine ⟨.ref a, rfl, fun _ _ => ?_⟩
      show V.ref a = V.ref _
      rw [of_decide_eq_true h]
      simp only [Cfg.W, hq]
    · cases h
  | .tup xs, u, h => by
    cases u <;> simp only [gloV] at h <;> first | (cases h; done) | skip
    rename_i a
    split at h
    · rename_i t dd its n sl hl
      simp only [Bool.and_eq_true, decide_eq_true_eq] at h
      obtain ⟨⟨rfl, h2⟩, h3⟩ := h
      obtain ⟨vs, r1, r2⟩ := gloVs_ok xs its.toList h3
      exact ⟨.ref a, rfl, fun ρ H => ⟨a, vs, rfl, .inr ⟨_, its, n, hl, rfl, rfl, h2, r1⟩, r2 ρ H⟩⟩
    · cases h
  | .ref _, u, h => by cases u <;> simp [gloV] at h
  | .rl _, u, h => by cases u <;> simp [gloV] at h
theorem gloVs_ok : ∀ (d : List D) (u : List Value), gloVs c K d u = true → ∃ v, Vals v u ∧ ∀ ρ H, RelIs (c.W K) K ρ H d v
  | [], [], h => ⟨[], .nil, fun _ _ => rfl⟩
  | [], u :: us, h => by simp [gloVs] at h
  | x :: xs, [], h => by simp [gloVs] at h
  | x :: xs, u :: us, h => by
    simp only [gloVs, Bool.and_eq_true] at h
    obtain ⟨v, r1, r2⟩ := gloV_ok x u h.1
    obtain ⟨vs, q1, q2⟩ := gloVs_ok xs us h.2
    exact ⟨v :: vs, .cons r1 q1, fun ρ H => ⟨v, vs, rfl, r2 ρ H, q2 ρ H⟩⟩
end
/-- the pairs of a written dict -/
theorem wd_pairs : ∀ {es : List DictEntry} {l : List (Int × Str)}, es.map keyIS = l.map (fun q => some (q.1, hashInt q.1, q.2)) → ∃ kvs : List (Key × Value), Pairs (mixKind P w) es kvs ∧ (∀ e ∈ es, ∃ k, (mixKind P w).is k e.key = true ∧ e.hash = (mixKind P w).hash k) ∧ kvs.map (·.1) = l.map (fun q => Sum.inl q.1) ∧
    ∀ k d, kget k (wdOf l) = some d → ∃ (i : Int) (s : Str) (t : Tok), k = Sum.inl i ∧ d = .str s ∧ valueAt kvs k = some (.str s t)
  | [], [], _ => ⟨[], .nil, by simp, rfl, fun k d h => by simp [wdOf, kget] at h⟩
  | [], q :: l, h => by simp at h
  | e :: es, [], h => by simp at h
  | e :: es, q :: l, h => by
    simp only [List.map_cons, List.cons.injEq] at h
    obtain ⟨kvs, p1, p2, p3, p4⟩ := wd_pairs h.2
    have h1 := h.1
    unfold keyIS at h1
    split at h1
    · rename_i i t s u ek ev
      simp only [Option.some.injEq, Prod.mk.injEq] at h1
      obtain ⟨e1, e2, e3⟩ := h1
      subst e1 e3
      have hk : (mixKind P w).is (Sum.inl q.1) e.key = true := by rw [ek]; exact keyIs_int q.1 t
      refine ⟨(Sum.inl q.1, e.val) :: kvs, .cons hk rfl p1, fun x hx => ?_, by simp [p3], fun k d hd => ?_⟩
      · rcases List.mem_cons.mp hx with z | z
        · subst z
          exact ⟨_, hk, e2⟩
        · exact p2 x z
      · simp only [wdOf, List.map_cons, kget] at hd
        split at hd
        · rename_i ee
          cases hd
          refine ⟨q.1, q.2, u, ee.symm, rfl, ?_⟩
          simp [valueAt, ee, ev]
        · rename_i ne
          obtain ⟨i, s, t, z1, z2, z3⟩ := p4 k d hd
          refine ⟨i, s, t, z1, z2, ?_⟩
          simp only [valueAt, List.find?_cons, decide_eq_false ne]
          exact z3
    · cases h1
theorem wd_ok {x : Str} {l : List (Int × Str)} (hB : wdB K x l = true) : ∀ (k : Key) (d : D), kget k (wdOf l) = some d → ∃ s : Str, d = .str s ∧ ∀ (h : Heap), K.In h → ∃ t, ∃ f : Key → Option Value, h.MapOf (mixKind P w) (He.ga K x) f ∧ f k = some (.str s t) := by
  intro k d hd
  unfold wdB at hB
  split at hB
  · rename_i cc es n sl hl
    simp only [Bool.and_eq_true, decide_eq_true_eq] at hB
    obtain ⟨⟨⟨rfl, h2⟩, h3⟩, h4⟩ := hB
    obtain ⟨kvs, p1, p2, p3, p4⟩ := wd_pairs (P := P) (w := w) h3
    obtain ⟨i, s, t, z1, z2, z3⟩ := p4 k d hd
    refine ⟨s, z2, fun h hK => ⟨t, valueAt kvs, ?_, z3⟩⟩
    have hs : sl = #[] := by simpa using h2
    refine Heap.DictOf.mapOf ⟨_, es, n, hK _ _ hl, ⟨rfl, rfl, hs⟩, rfl, fun e he => p2 e (by simpa using he), p1, ?_⟩
    rw [p3]
    have : (l.map fun q => (Sum.inl q.1 : Key)) = (l.map (·.1)).map Sum.inl := by simp
    rw [this]
    exact List.Pairwise.map _ (fun a b h e => h (Sum.inl.inj e)) h4
  · cases hB
theorem lk_mem {α β : Type} [BEq α] [LawfulBEq α] {a : α} {b : β} : ∀ {l : List (α × β)}, l.lookup a = some b → (a, b) ∈ l
  | [], h => by simp at h
  | (x, y) :: l, h => by
    rw [List.lookup_cons] at h
    split at h
    · rename_i e
      cases h
      rw [eq_of_beq e]
      exact List.mem_cons_self
    · exact List.mem_cons_of_mem _ (lk_mem h)
theorem all_range {n : Nat} {f : Nat → Bool} (h : (List.range n).all f = true) {i : Nat} (hi : i < n) : f i = true := List.all_eq_true.mp h i (List.mem_range.mpr hi)
theorem bs_of (hp : c.pure = true) (hc : AllT (fun d => scopeB d = true ∧ ckSs c.E d.N d.scope d.ir d.body = true) c.T) (hb : AllT BindOk c.T) (KX : K.In h) (G : h.Ns mainGlobals mg) (sd : He.SaysD [] c.fn K) (hx : c.ex K = true) :
    ∃ (fd : Nat → FuncData), Bs P w K mg (c.W K) c.G c.E c.T (fun f => He.fAd K (c.at_.getD f ("", none))) fd := by
  simp only [Cfg.pure, Bool.and_eq_true, decide_eq_true_eq] at hp
  obtain ⟨⟨⟨⟨⟨⟨n1, n2⟩, n3⟩, n4, n4b⟩, n5⟩, n6⟩, n7⟩ := hp
  simp only [Cfg.ex, Bool.and_eq_true, Bool.or_eq_true, Bool.not_eq_true'] at hx
  obtain ⟨⟨⟨⟨⟨⟨⟨⟨⟨x1, x2⟩, x3⟩, x4⟩, x5⟩, x6⟩, x7⟩, x8⟩, x9⟩, x10⟩ := hx
  have atE : ∀ f, f < c.T.length → c.at_[f]? = some (c.at_.getD f ("", none)) := fun f hf => by
    rw [n3] at hf
    rw [List.getD_eq_getElem?_getD, List.getElem?_eq_getElem hf]
    rfl
  have dfs : ∀ f : Nat, ∃ fd : FuncData, ∀ d, c.T[f]? = some d → FunD K d.x d.qual d.args d.body d.scope [] [] (He.fAd K (c.at_.getD f ("", none))) fd := fun f => by
    cases hf : c.T[f]? with
    | none => exact ⟨⟨"", "", default, .stmts [], default, 0, [], .none, .none, .none, .none, none, .none, .none, 0⟩, fun d e => by cases e⟩
    | some d =>
      have hl := (List.getElem?_eq_some_iff.mp hf).1
      obtain ⟨fd, F⟩ := sd.def_ f (d := ⟨c.at_.getD f ("", none), d.x, d.qual, d.args, d.body, d.scope, [], []⟩) (by
        have hz : (c.T.zip c.at_)[f]? = some (d, c.at_.getD f ("", none)) := List.getElem?_zip_eq_some.mpr ⟨hf, atE f hl⟩
        unfold Cfg.fn
        rw [List.getElem?_map, hz]
        rfl)
      exact ⟨fd, fun d' e => by cases e; exact F⟩
  have cnG : ∀ i, c.cn.getD i "" ∈ c.cn → mg (c.cn.getD i "") = some (.ref (He.ga K (c.cn.getD i ""))) := fun i hi => He.glo_ok KX G (List.all_eq_true.mp x1 _ hi)
  refine ⟨fun f => Classical.choose (dfs f), ?_⟩
  refine ⟨fun f d hd => ?_, fun f hf => ?_, fun i hi => ?_, fun i m f hm => ?_, fun i f hf => ?_, fun g hg => ?_, fun x hx => ?_, fun hg => ?_, nm_inj n1 n2, rfl, ?_, fun i hi => ?_⟩
  · have F := Classical.choose_spec (dfs f) d hd
    obtain ⟨s1, s2⟩ := AllT.get hc hd
    exact ⟨F, F.bindsN (AllT.get hb hd), s1, s2⟩
  · have hf' : f < c.nf := hf
    have z1 := all_range n5 hf'
    have z2 := He.glo_ok KX G (all_range x2 hf')
    refine ⟨Nat.lt_of_lt_of_le hf' n4, ?_⟩
    show mg (c.at_.getD f ("", none)).1 = _
    rw [z2]
    have e : c.at_.getD f ("", none) = ((c.at_.getD f ("", none)).1, none) := by
      have : (c.at_.getD f ("", none)).2 = none := by simpa using z1
      exact Prod.ext rfl this
    rw [e]
    rfl
  · have hi' : i < c.ini.length := hi
    have z := all_range n6 hi'
    simp only [Bool.and_eq_true, decide_eq_true_eq] at z
    obtain ⟨z1, z2⟩ := z
    have m := He.mkr_ok (all_range x3 hi')
    have e : c.at_.getD (c.ini.getD i 0) ("", none) = (c.cn.getD i "", some ("__init__" : Str)) := by
      rw [List.getD_eq_getElem?_getD, z2]
      rfl
    refine ⟨z1, ?_, ?_⟩
    · refine cnG i ?_
      have hlt : i < c.cn.length := Nat.lt_of_lt_of_le hi' n4b
      rw [List.getD_eq_getElem?_getD, List.getElem?_eq_getElem hlt]
      exact List.getElem_mem hlt
    · show Mk K (He.ga K (c.cn.getD i "")) (He.fAd K (c.at_.getD (c.ini.getD i 0) ("", none)))
      rw [e]
      exact m
  · have hm' : c.mth.lookup (i, m) = some f := hm
    have hmem : ((i, m), f) ∈ c.mth := lk_mem hm'
    have z := List.all_eq_true.mp n7 _ hmem
    have y := List.all_eq_true.mp x4 _ hmem
    simp only [Bool.and_eq_true, decide_eq_true_eq] at z y
    have e : c.at_.getD f ("", none) = (c.cn.getD i "", some (nmOf c.nmL m)) := by
      rw [List.getD_eq_getElem?_getD, z.2]
      rfl
    refine ⟨z.1, He.cls_ok y.1, ?_⟩
    show Meth K (He.ga K (c.cn.getD i "")) (nmOf c.nmL m) (He.fAd K (c.at_.getD f ("", none)))
    rw [e]
    exact He.meth_ok y.2
  · have hmem : (i, f) ∈ c.fld := by
      have : c.fld.contains (i, f) = true := hf
      simpa using this
    have y := List.all_eq_true.mp x5 _ hmem
    simp only [Bool.and_eq_true] at y
    exact ⟨He.cls_ok y.1, He.noat_ok y.2⟩
  · have hg' : g < c.gn.length := hg
    have y := List.all_eq_true.mp x6 _ (List.getElem_mem hg')
    unfold gloB at y
    split at y
    · rename_i u hu
      obtain ⟨v, r1, r2⟩ := gloV_ok _ u y
      refine ⟨v, u, ?_, r1, fun ρ H => ?_⟩
      · show mg (match c.gn[g]? with
          | some q => q.1
          | none => "") = some u
        rw [List.getElem?_eq_getElem hg']
        exact PySem.W.mg_of KX G hu
      · show RelI (c.W K) K ρ H (match c.gn[g]? with
          | some q => q.2
          | none => .non) v
        rw [List.getElem?_eq_getElem hg']
        exact r2 ρ H
    · cases y
  · exact He.free_ok KX G (List.all_eq_true.mp x7 x hx)
  · have hg' : c.gcd = true := hg
    rcases x8 with z | z
    · rw [hg'] at z
      cases z
    · exact PySem.W.mg_of KX G (He.eqO_ok z)
  · intro j k d hd
    have hd' : kget k (match c.wd[j]? with
      | some q => wdOf q.2
      | none => []) = some d := hd
    cases hj : c.wd[j]? with
    | none => simp [hj, kget] at hd'
    | some q =>
      simp only [hj] at hd'
      have y := List.all_eq_true.mp x10 _ (List.mem_of_getElem? hj)
      obtain ⟨s, rfl, z⟩ := wd_ok (P := P) (w := w) y k d hd'
      refine ⟨.str s, fun _ _ => rfl, fun X e1 e2 e3 value slice pins st σ H u Q I r q2 hs => ?_⟩
      have ea : (c.W K).wa j = He.ga K q.1 := by simp only [Cfg.W, hj]
      rw [ea] at hs ⊢
      subst e1 e2 e3
      obtain ⟨t, f, z1, z2⟩ := z st.heap I.kIn
      exact tail_any z1.typeIs PySem.F.slot_dict_getitem.lookup (wpAny_getItem_of (kV_is r) z1 z2 ⟨.str s, H, I.tok _, ⟨t, rfl⟩, q2⟩) hs
  · have y := List.all_eq_true.mp x9 i hi
    simp only [Bool.and_eq_true] at y
    obtain ⟨y1, y2⟩ := y
    refine ⟨He.glo_ok KX G y1, ?_⟩
    simp only [iscB, Bool.and_eq_true, decide_eq_true_eq] at y2
    obtain ⟨⟨⟨⟨⟨⟨q1, q2⟩, q3⟩, q4⟩, q5⟩, q6⟩, q7⟩ := y2
    exact ⟨He.cls_ok q1, He.eqO_ok q2, He.eqO_ok q3, q4, q5, q6, q7⟩
end
end Z
end

-- ZN
section
set_option Elab.async false
set_option linter.all false
set_option maxRecDepth 100000
set_option maxHeartbeats 4000000
/-! A law's end. -/
namespace Z
open PySem L2 PySem.Spec PyProof.Rows
theorem bind_0 {d : DefT} (hn : d.ps.length = 0) (h : ∀ (kV doc pm : Value) (an : Option Addr) (cdv ct : Value), bindArgs (PySem.W.fnOf d.x d.qual d.args d.body d.scope .none kV doc pm an cdv ct) ⟨[], []⟩ = Pure.pure (d.ps.zip [])) : BindOk d := fun kV doc pm an cdv ct us hl => by
  rw [hn] at hl
  match us, hl with
  | [], _ => exact h kV doc pm an cdv ct 
theorem bind_1 {d : DefT} (hn : d.ps.length = 1) (h : ∀ (kV doc pm : Value) (an : Option Addr) (cdv ct : Value), ∀ (a0 : Value), bindArgs (PySem.W.fnOf d.x d.qual d.args d.body d.scope .none kV doc pm an cdv ct) ⟨[a0], []⟩ = Pure.pure (d.ps.zip [a0])) : BindOk d := fun kV doc pm an cdv ct us hl => by
  rw [hn] at hl
  match us, hl with
  | [a0], _ => exact h kV doc pm an cdv ct a0
theorem bind_2 {d : DefT} (hn : d.ps.length = 2) (h : ∀ (kV doc pm : Value) (an : Option Addr) (cdv ct : Value), ∀ (a0 a1 : Value), bindArgs (PySem.W.fnOf d.x d.qual d.args d.body d.scope .none kV doc pm an cdv ct) ⟨[a0, a1], []⟩ = Pure.pure (d.ps.zip [a0, a1])) : BindOk d := fun kV doc pm an cdv ct us hl => by
  rw [hn] at hl
  match us, hl with
  | [a0, a1], _ => exact h kV doc pm an cdv ct a0 a1
theorem bind_3 {d : DefT} (hn : d.ps.length = 3) (h : ∀ (kV doc pm : Value) (an : Option Addr) (cdv ct : Value), ∀ (a0 a1 a2 : Value), bindArgs (PySem.W.fnOf d.x d.qual d.args d.body d.scope .none kV doc pm an cdv ct) ⟨[a0, a1, a2], []⟩ = Pure.pure (d.ps.zip [a0, a1, a2])) : BindOk d := fun kV doc pm an cdv ct us hl => by
  rw [hn] at hl
  match us, hl with
  | [a0, a1, a2], _ => exact h kV doc pm an cdv ct a0 a1 a2
theorem bind_4 {d : DefT} (hn : d.ps.length = 4) (h : ∀ (kV doc pm : Value) (an : Option Addr) (cdv ct : Value), ∀ (a0 a1 a2 a3 : Value), bindArgs (PySem.W.fnOf d.x d.qual d.args d.body d.scope .none kV doc pm an cdv ct) ⟨[a0, a1, a2, a3], []⟩ = Pure.pure (d.ps.zip [a0, a1, a2, a3])) : BindOk d := fun kV doc pm an cdv ct us hl => by
  rw [hn] at hl
  match us, hl with
  | [a0, a1, a2, a3], _ => exact h kV doc pm an cdv ct a0 a1 a2 a3
theorem bind_5 {d : DefT} (hn : d.ps.length = 5) (h : ∀ (kV doc pm : Value) (an : Option Addr) (cdv ct : Value), ∀ (a0 a1 a2 a3 a4 : Value), bindArgs (PySem.W.fnOf d.x d.qual d.args d.body d.scope .none kV doc pm an cdv ct) ⟨[a0, a1, a2, a3, a4], []⟩ = Pure.pure (d.ps.zip [a0, a1, a2, a3, a4])) : BindOk d := fun kV doc pm an cdv ct us hl => by
  rw [hn] at hl
  match us, hl with
  | [a0, a1, a2, a3, a4], _ => exact h kV doc pm an cdv ct a0 a1 a2 a3 a4
theorem bind_6 {d : DefT} (hn : d.ps.length = 6) (h : ∀ (kV doc pm : Value) (an : Option Addr) (cdv ct : Value), ∀ (a0 a1 a2 a3 a4 a5 : Value), bindArgs (PySem.W.fnOf d.x d.qual d.args d.body d.scope .none kV doc pm an cdv ct) ⟨[a0, a1, a2, a3, a4, a5], []⟩ = Pure.pure (d.ps.zip [a0, a1, a2, a3, a4, a5])) : BindOk d := fun kV doc pm an cdv ct us hl => by
  rw [hn] at hl
  match us, hl with
  | [a0, a1, a2, a3, a4, a5], _ => exact h kV doc pm an cdv ct a0 a1 a2 a3 a4 a5
theorem bind_7 {d : DefT} (hn : d.ps.length = 7) (h : ∀ (kV doc pm : Value) (an : Option Addr) (cdv ct : Value), ∀ (a0 a1 a2 a3 a4 a5 a6 : Value), bindArgs (PySem.W.fnOf d.x d.qual d.args d.body d.scope .none kV doc pm an cdv ct) ⟨[a0, a1, a2, a3, a4, a5, a6], []⟩ = Pure.pure (d.ps.zip [a0, a1, a2, a3, a4, a5, a6])) : BindOk d := fun kV doc pm an cdv ct us hl => by
  rw [hn] at hl
  match us, hl with
  | [a0, a1, a2, a3, a4, a5, a6], _ => exact h kV doc pm an cdv ct a0 a1 a2 a3 a4 a5 a6
theorem bind_8 {d : DefT} (hn : d.ps.length = 8) (h : ∀ (kV doc pm : Value) (an : Option Addr) (cdv ct : Value), ∀ (a0 a1 a2 a3 a4 a5 a6 a7 : Value), bindArgs (PySem.W.fnOf d.x d.qual d.args d.body d.scope .none kV doc pm an cdv ct) ⟨[a0, a1, a2, a3, a4, a5, a6, a7], []⟩ = Pure.pure (d.ps.zip [a0, a1, a2, a3, a4, a5, a6, a7])) : BindOk d := fun kV doc pm an cdv ct us hl => by
  rw [hn] at hl
  match us, hl with
  | [a0, a1, a2, a3, a4, a5, a6, a7], _ => exact h kV doc pm an cdv ct a0 a1 a2 a3 a4 a5 a6 a7
theorem law_at {c : Cfg} {li n most : Nat} {dl : DefT} {x : Str} (hp : c.pure = true) (hc : AllT (fun d => scopeB d = true ∧ ckSs c.E d.N d.scope d.ir d.body = true) c.T) (hb : AllT BindOk c.T) (hl : c.T[li]? = some dl) (hps : dl.ps = [x]) (hli : li < c.nf)
    (hname : (c.at_.getD li ("", none)).1 = "law") (hsem : ∀ ns : List Int, ns.length ≤ most → ∃ h', (sem c.G (prgOf c.T) n).fn li [.rl (ns.map .int)] [] = some (.bl true, h')) {P : Program} {w : World} {mg : Str → Option Value} {f : Addr} {h : Heap}
    (Y : ∃ K : PySem.W.Frag, K.In h ∧ He.SaysX [] c.fn [] [] c.ex w h K) (G : h.Ns mainGlobals mg) (hmg : mg "law" = some (.ref f)) :
    ∃ (K : PySem.W.Frag) (fd : FuncData) (sp : Sp), K.In h ∧ (∀ (s : Shared) (u : Value), BindsTo s fd ⟨[u], []⟩ [(x, u)]) ∧
      (∀ (H : Hp) (a : Addr) (ns : List Int), ns.length ≤ most → Only H → SqL K H a (ns.map V.int) → sp [.ref a] H (fun v _ => v = .bl true) fun _ _ _ => False) ∧
      ∀ base : Heap, K.In base → base.Ns mainGlobals mg → FnOk P w K mg base CX0 (n + 1) f fd [x] sp := by
  obtain ⟨K, KX, sx⟩ := Y
  obtain ⟨fd, B⟩ := bs_of (P := P) (w := w) hp hc hb KX G sx.t.d sx.more
  obtain ⟨F, bn, _, _⟩ := B.defs li dl hl
  have e0 := (B.glf li hli).2
  have ef : f = He.fAd K (c.at_.getD li ("", none)) := by
    have e1 : mg (c.at_.getD li ("", none)).1 = some (.ref (He.fAd K (c.at_.getD li ("", none)))) := e0
    rw [hname, hmg] at e1
    injection e1 with e1
    injection e1
  have h1 : dl.ps.length = 1 := by rw [hps]; rfl
  refine ⟨K, fd li, spI (c.W K) K dl.ps.length ((sem c.G (prgOf c.T) n).fn li), KX, fun s u => ?_, fun H a ns hn hO hS => ?_, fun base kb gb => ?_⟩
  · have b := F.bindsA (AllT.get hb hl) s [u] (by rw [h1]; rfl)
    rw [hps] at b
    exact b
  · obtain ⟨h', e⟩ := hsem ns hn
    have fz : Fz K H a (ns.map V.int) := by
      rcases hS with (z | ⟨o, z⟩) | z
      · rcases hO a with q | ⟨o, xs, q⟩
        · rw [q] at z; cases z
        · rw [q] at z; cases z
      · exact .inl ⟨o, z⟩
      · exact .inr z
    refine ⟨[], [.rl (ns.map .int)], [], .bl true, h', ⟨rfl, List.nodup_nil, fun n o a e1 => by simp at e1⟩, ⟨.ref a, [], rfl, ⟨a, _, rfl, fz, RelIs.of_ints ns⟩, rfl⟩, e, h1.symm, fun ρ' H' p k S v r => r⟩
  · have q := (fn_ok (base := base) B n).1 li dl hl
    rw [← ef] at q
    have e2 : dl.ps = [x] := hps
    rw [← e2]
    exact q
end Z
end

-- Gen14
section
set_option Elab.async false
set_option linter.all false
set_option maxRecDepth 100000
set_option maxHeartbeats 0
namespace K14
open PySem PySem.Spec PyProof.Rows L2 Z
def top (i : Nat) : Stmt := PySem.Challenge.pw_otherdiagonal_k14_whole_the_round_the_fl.main.body.getD i (.Pass ⟨0, 0, 0, 0⟩)
def ir0 : Stms := (.cons .never .nil)
def d0 : DefT := ⟨"_wall", "_wall", defArgs (top 1), defBody (top 1), defScope (top 1), ["k"], ["k"], ir0⟩
def ir1 : Stms := (.cons (.ite (.or (.not (.val (.un .isInt (.var 1)))) (.or (.val (.un .isBool (.var 1))) (.or (.val (.bin .lt (.var 1) (.var 2))) (.and (.val (.un .notN (.var 3))) (.val (.bin .gt (.var 1) (.var 3))))))) (.cons .never .nil) .nil) .nil)
def d1 : DefT := ⟨"need_integer", "need_integer", defArgs (top 8), defBody (top 8), defScope (top 8), ["part", "value", "least", "most"], ["part", "value", "least", "most"], ir1⟩
def ir2 : Stms := (.cons (.ite (.not (.val (.un .isSeq (.var 1)))) (.cons .never .nil) .nil) (.cons (.ite (.not (.val (.app .all (.cons (.lc (.seq (.var 1)) (.nm 2) .yes (.and (.un .isInt (.var 2)) (.not (.un .isBool (.var 2)))) [2]) .nil)))) (.cons .never .nil) .nil) (.cons (.ret (.app .tuple (.cons (.var 1) .nil))) .nil)))
def d2 : DefT := ⟨"need_row", "need_row", defArgs (top 9), defBody (top 9), defScope (top 9), ["part", "value", "one"], ["part", "value"], ir2⟩
def ir3 : Stms := (.cons (.ret (.and (.un .isInt (.var 0)) (.not (.un .isBool (.var 0))))) .nil)
def d3 : DefT := ⟨"is_integer", "is_integer", defArgs (top 11), defBody (top 11), defScope (top 11), ["value"], ["value"], ir3⟩
def ir4 : Stms := (.cons (.asg (.nm 2) (.app .gcd (.cons (.var 0) (.cons (.var 1) .nil)))) (.cons (.ret (.ite (.val (.bin .lt (.var 1) (.con (.int 0)))) (.tup (.cons (.bin .fdiv (.un .neg (.var 0)) (.var 2)) (.cons (.bin .fdiv (.un .neg (.var 1)) (.var 2)) .nil))) (.tup (.cons (.bin .fdiv (.var 0) (.var 2)) (.cons (.bin .fdiv (.var 1) (.var 2)) .nil))))) .nil))
def d4 : DefT := ⟨"reduced", "reduced", defArgs (top 12), defBody (top 12), defScope (top 12), ["p", "q", "common"], ["p", "q"], ir4⟩
def ir5 : Stms := (.cons (.ite (.val (.call 3 (.cons (.var 1) .nil))) (.cons (.ret (.tup (.cons (.var 1) (.cons (.con (.int 1)) .nil)))) .nil) .nil) (.cons (.ite (.or (.not (.val (.un .isSeq (.var 1)))) (.or (.val (.bin .ne (.app .len (.cons (.var 1) .nil)) (.con (.int 2)))) (.not (.val (.app .all (.cons (.lc (.seq (.var 1)) (.nm 2) .yes (.call 3 (.cons (.var 2) .nil)) [2]) .nil)))))) (.cons .never .nil) .nil) (.cons (.ite (.val (.bin .lt (.bin .ix (.var 1) (.con (.int 1))) (.con (.int 1)))) (.cons .never .nil) .nil) (.cons (.ret (.call 4 (.cons (.bin .ix (.var 1) (.con (.int 0))) (.cons (.bin .ix (.var 1) (.con (.int 1))) .nil)))) .nil))))
def d5 : DefT := ⟨"need_fraction", "need_fraction", defArgs (top 13), defBody (top 13), defScope (top 13), ["part", "value", "one"], ["part", "value"], ir5⟩
def ir6 : Stms := (.cons (.asg (.tp (.cons (.tp (.cons (.nm 2) (.cons (.nm 3) .nil))) (.cons (.tp (.cons (.nm 4) (.cons (.nm 5) .nil))) .nil))) (.tup (.cons (.call 5 (.cons (.con (.str "one")) (.cons (.var 0) .nil))) (.cons (.call 5 (.cons (.con (.str "other")) (.cons (.var 1) .nil))) .nil)))) (.cons (.ret (.call 4 (.cons (.bin .add (.bin .mul (.var 2) (.var 5)) (.bin .mul (.var 4) (.var 3))) (.cons (.bin .mul (.var 3) (.var 5)) .nil)))) .nil))
def d6 : DefT := ⟨"added", "added", defArgs (top 14), defBody (top 14), defScope (top 14), ["one", "other", "p", "q", "r", "s"], ["one", "other"], ir6⟩
def ir7 : Stms := (.cons (.asg (.tp (.cons (.tp (.cons (.nm 2) (.cons (.nm 3) .nil))) (.cons (.tp (.cons (.nm 4) (.cons (.nm 5) .nil))) .nil))) (.tup (.cons (.call 5 (.cons (.con (.str "one")) (.cons (.var 0) .nil))) (.cons (.call 5 (.cons (.con (.str "other")) (.cons (.var 1) .nil))) .nil)))) (.cons (.ret (.call 4 (.cons (.bin .sub (.bin .mul (.var 2) (.var 5)) (.bin .mul (.var 4) (.var 3))) (.cons (.bin .mul (.var 3) (.var 5)) .nil)))) .nil))
def d7 : DefT := ⟨"less", "less", defArgs (top 15), defBody (top 15), defScope (top 15), ["one", "other", "p", "q", "r", "s"], ["one", "other"], ir7⟩
def ir8 : Stms := (.cons (.asg (.tp (.cons (.tp (.cons (.nm 2) (.cons (.nm 3) .nil))) (.cons (.tp (.cons (.nm 4) (.cons (.nm 5) .nil))) .nil))) (.tup (.cons (.call 5 (.cons (.con (.str "one")) (.cons (.var 0) .nil))) (.cons (.call 5 (.cons (.con (.str "other")) (.cons (.var 1) .nil))) .nil)))) (.cons (.ret (.call 4 (.cons (.bin .mul (.var 2) (.var 4)) (.cons (.bin .mul (.var 3) (.var 5)) .nil)))) .nil))
def d8 : DefT := ⟨"times", "times", defArgs (top 16), defBody (top 16), defScope (top 16), ["one", "other", "p", "q", "r", "s"], ["one", "other"], ir8⟩
def ir9 : Stms := (.cons (.asg (.tp (.cons (.tp (.cons (.nm 2) (.cons (.nm 3) .nil))) (.cons (.tp (.cons (.nm 4) (.cons (.nm 5) .nil))) .nil))) (.tup (.cons (.call 5 (.cons (.con (.str "one")) (.cons (.var 0) .nil))) (.cons (.call 5 (.cons (.con (.str "other")) (.cons (.var 1) .nil))) .nil)))) (.cons (.ret (.bin .sub (.app .toInt (.cons (.bin .gt (.bin .mul (.var 2) (.var 5)) (.bin .mul (.var 4) (.var 3))) .nil)) (.app .toInt (.cons (.bin .lt (.bin .mul (.var 2) (.var 5)) (.bin .mul (.var 4) (.var 3))) .nil)))) .nil))
def d9 : DefT := ⟨"order_of", "order_of", defArgs (top 17), defBody (top 17), defScope (top 17), ["one", "other", "p", "q", "r", "s"], ["one", "other"], ir9⟩
def ir10 : Stms := (.cons (.ret (.app .minD (.cons (.lc (.rng1 (.app .len (.cons (.var 0) .nil))) (.nm 1) .yes (.bin .add (.sl (.var 0) (.var 1) (.con .non)) (.sl (.var 0) (.con .non) (.var 1))) [1]) (.cons (.tup .nil) .nil)))) .nil)
def d10 : DefT := ⟨"least_turn", "least_turn", defArgs (top 24), defBody (top 24), defScope (top 24), ["ring", "at"], ["ring"], ir10⟩
def ir11 : Stms := (.cons (.ret (.lc (.seq (.var 0)) (.nm 1) .yes (.un .rev (.var 1)) [1])) .nil)
def d11 : DefT := ⟨"turned_about", "turned_about", defArgs (top 25), defBody (top 25), defScope (top 25), ["rings", "ring"], ["rings"], ir11⟩
def ir12 : Stms := (.cons (.asg (.nm 2) (.app .sorted (.cons (.lc (.seq (.var 0)) (.nm 3) .yes (.call 10 (.cons (.var 3) .nil)) [3]) .nil))) (.cons (.ite (.val (.var 1)) (.cons (.ret (.app .tuple (.cons (.app .min2 (.cons (.var 2) (.cons (.app .sorted (.cons (.lc (.seq (.call 11 (.cons (.var 0) .nil))) (.nm 3) .yes (.call 10 (.cons (.var 3) .nil)) [3]) .nil)) .nil))) .nil))) .nil) .nil) (.cons (.ret (.app .tuple (.cons (.app .sorted (.cons (.lc (.seq (.var 0)) (.nm 3) .yes (.app .min2 (.cons (.call 10 (.cons (.var 3) .nil)) (.cons (.call 10 (.cons (.un .rev (.var 3)) .nil)) .nil))) [3]) .nil)) .nil))) .nil)))
def d12 : DefT := ⟨"rings_in_order", "rings_in_order", defArgs (top 26), defBody (top 26), defScope (top 26), ["rings", "has_two_sides", "one", "ring"], ["rings", "has_two_sides"], ir12⟩
def ir13 : Stms := (.cons (.asg (.nm 2) (.call 2 (.cons (.var 0) (.cons (.var 1) .nil)))) (.cons (.fo (.seq (.var 2)) (.nm 3) (.cons (.exp (.call 1 (.cons (.var 0) (.cons (.var 3) (.cons (.con (.int 1)) (.cons (.glo 1) .nil)))))) .nil)) (.cons (.ret (.var 2)) .nil)))
def d13 : DefT := ⟨"need_orders", "need_orders", defArgs (top 27), defBody (top 27), defScope (top 27), ["part", "value", "row", "order"], ["part", "value"], ir13⟩
def ir14 : Stms := (.cons (.ite (.not (.val (.un .isSeq (.var 0)))) (.cons .never .nil) .nil) (.cons (.ret (.lc (.seq (.var 0)) (.nm 1) .yes (.call 13 (.cons (.con (.str "rings")) (.cons (.var 1) .nil))) [1])) .nil))
def d14 : DefT := ⟨"need_rings", "need_rings", defArgs (top 28), defBody (top 28), defScope (top 28), ["value", "ring"], ["value"], ir14⟩
def ir15 : Stms := (.cons (.ite (.not (.val (.un (.isCls 0) (.var 1)))) (.cons .never .nil) .nil) .nil)
def d15 : DefT := ⟨"need_full", "need_full", defArgs (top 30), defBody (top 30), defScope (top 30), ["part", "value"], ["part", "value"], ir15⟩
def ir16 : Stms := (.cons (.asg (.nm 1) (.tup (.cons (.con (.int 0)) (.cons (.con (.int 1)) .nil)))) (.cons (.fo (.seq (.var 0)) (.nm 2) (.cons (.asg (.nm 1) (.call 6 (.cons (.var 1) (.cons (.call 4 (.cons (.bin .sub (.var 2) (.con (.int 1))) (.cons (.var 2) .nil))) .nil)))) .nil)) (.cons (.ret (.var 1)) .nil)))
def d16 : DefT := ⟨"lost_at", "lost_at", defArgs (top 31), defBody (top 31), defScope (top 31), ["orders", "found", "order"], ["orders"], ir16⟩
def ir17 : Stms := (.cons (.exp (.call 15 (.cons (.con (.str "full")) (.cons (.var 0) .nil)))) (.cons (.asg (.nm 1) (.call 16 (.cons (.lc2 (.seq (.fld 9 (.var 0))) (.nm 2) (.seq (.var 2)) (.nm 3) (.var 3) [2, 3] [3]) .nil))) (.cons (.ret (.call 7 (.cons (.bin .mul (.con (.int 2)) (.umt 1 (.var 0) .nil)) (.cons (.call 6 (.cons (.call 8 (.cons (.con (.int 2)) (.cons (.call 16 (.cons (.fld 8 (.var 0)) .nil)) .nil))) (.cons (.var 1) .nil))) .nil)))) .nil)))
def d17 : DefT := ⟨"balance_of", "balance_of", defArgs (top 32), defBody (top 32), defScope (top 32), ["full", "rims", "ring", "order"], ["full"], ir17⟩
def ir18 : Stms := (.cons (.ret (.bin .ix (.glo 4) (.call 9 (.cons (.call 17 (.cons (.var 0) .nil)) (.cons (.con (.int 0)) .nil))))) .nil)
def d18 : DefT := ⟨"kind_of", "kind_of", defArgs (top 33), defBody (top 33), defScope (top 33), ["full"], ["full"], ir18⟩
def ir19 : Stms := (.cons (.exp (.call 15 (.cons (.con (.str "full")) (.cons (.var 0) .nil)))) (.cons (.asg (.nm 1) (.umt 5 (.var 0) .nil)) (.cons (.ite (.or (.val (.bin .gt (.fld 6 (.var 1)) (.con (.int 0)))) (.or (.val (.bin .gt (.fld 7 (.var 1)) (.con (.int 0)))) (.or (.val (.bin .gt (.app .len (.cons (.fld 9 (.var 1)) .nil)) (.con (.int 1)))) (.and (.val (.bin .ne (.fld 9 (.var 1)) (.tup .nil))) (.val (.bin .ne (.fld 8 (.var 1)) (.tup .nil))))))) (.cons (.ret (.con (.bl false))) .nil) .nil) (.cons (.asg (.nm 2) (.ite (.val (.bin .eq (.fld 9 (.var 1)) (.tup .nil))) (.fld 8 (.var 1)) (.bin .ix (.fld 9 (.var 1)) (.con (.int 0))))) (.cons (.ret (.or (.bin .eq (.app .len (.cons (.var 2) .nil)) (.con (.int 1))) (.and (.bin .eq (.app .len (.cons (.var 2) .nil)) (.con (.int 2))) (.bin .ne (.bin .ix (.var 2) (.con (.int 0))) (.bin .ix (.var 2) (.con (.int 1))))))) .nil)))))
def d19 : DefT := ⟨"is_shut", "is_shut", defArgs (top 34), defBody (top 34), defScope (top 34), ["full", "bare", "some"], ["full"], ir19⟩
def ir20 : Stms := (.cons (.asg (.nm 4) (.bin .sub (.bin .sub (.con (.int 2)) (.app .len (.cons (.var 3) .nil))) (.var 0))) (.cons (.asg (.tp (.cons (.nm 5) (.cons (.nm 6) .nil))) (.ite (.val (.var 1)) (.tup (.cons (.bin .fdiv (.var 4) (.con (.int 2))) (.cons (.con (.int 0)) .nil))) (.tup (.cons (.con (.int 0)) (.cons (.var 4) .nil))))) (.cons (.ite (.val (.bin .gt (.app .max2 (.cons (.var 5) (.cons (.var 6) .nil))) (.glo 2))) (.cons .never .nil) .nil) (.cons (.ret (.new 0 (.cons (.var 5) (.cons (.var 6) (.cons (.var 2) (.cons (.var 3) .nil)))))) .nil))))
def d20 : DefT := ⟨"of_euler", "of_euler", defArgs (top 36), defBody (top 36), defScope (top 36), ["number", "has_two_sides", "inner", "rings", "lacking", "handles", "caps"], ["number", "has_two_sides", "inner", "rings"], ir20⟩
def ir21 : Stms := (.cons (.exp (.call 15 (.cons (.con (.str "full")) (.cons (.var 0) .nil)))) (.cons (.ite (.val (.bin .eq (.fld 9 (.var 0)) (.tup .nil))) (.cons .never .nil) .nil) (.cons (.asg (.nm 1) (.lc2 (.seq (.fld 9 (.var 0))) (.nm 2) (.seq (.var 2)) (.nm 3) (.var 3) [2, 3] [3])) (.cons (.ret (.call 20 (.cons (.bin .mul (.con (.int 2)) (.umt 1 (.var 0) .nil)) (.cons (.umt 0 (.var 0) .nil) (.cons (.lst (.star (.fld 8 (.var 0)) (.star (.fld 8 (.var 0)) (.star (.var 1) .nil)))) (.cons (.tup .nil) .nil)))))) .nil))))
def d21 : DefT := ⟨"mirrored_full", "mirrored_full", defArgs (top 37), defBody (top 37), defScope (top 37), ["full", "rims", "ring", "order"], ["full"], ir21⟩
def ir22 : Stms := (.cons (.exp (.call 15 (.cons (.con (.str "full")) (.cons (.var 0) .nil)))) (.cons (.ite (.val (.umt 0 (.var 0) .nil)) (.cons .never .nil) .nil) (.cons (.asg (.nm 1) (.lst (.star (.fld 9 (.var 0)) (.star (.lc (.seq (.fld 9 (.var 0))) (.nm 2) .yes (.un .rev (.var 2)) [2]) .nil)))) (.cons (.ret (.call 20 (.cons (.bin .mul (.con (.int 2)) (.umt 1 (.var 0) .nil)) (.cons (.con (.bl true)) (.cons (.bin .add (.fld 8 (.var 0)) (.fld 8 (.var 0))) (.cons (.var 1) .nil)))))) .nil))))
def d22 : DefT := ⟨"unfolded_full", "unfolded_full", defArgs (top 38), defBody (top 38), defScope (top 38), ["full", "rings", "ring"], ["full"], ir22⟩
def ir23 : Stms := (.cons (.asg (.nm 1) (.umt 5 (.var 0) .nil)) (.cons (.asg (.nm 2) (.ite (.and (.val (.bin .eq (.umt 2 (.var 1) .nil) (.con (.int 0)))) (.val (.bin .eq (.fld 9 (.var 1)) (.tup .nil)))) (.tup (.cons (.con (.int 1)) .nil)) (.fld 8 (.var 1)))) (.cons (.ret (.new 0 (.cons (.fld 6 (.var 1)) (.cons (.fld 7 (.var 1)) (.cons (.var 2) (.cons (.lc (.seq (.fld 9 (.var 1))) (.nm 3) .yes (.ite (.val (.bin .eq (.var 3) (.tup .nil))) (.tup (.cons (.con (.int 1)) .nil)) (.var 3)) [3]) .nil)))))) .nil)))
def d23 : DefT := ⟨"barest", "barest", defArgs (top 40), defBody (top 40), defScope (top 40), ["full", "bare", "inner", "ring"], ["full"], ir23⟩
def ir24 : Stms := (.cons (.exp (.call 15 (.cons (.con (.str "full")) (.cons (.var 0) .nil)))) (.cons (.ret (.ite (.val (.bin .eq (.fld 9 (.var 0)) (.tup .nil))) (.con (.int 2)) (.con (.int 1)))) .nil))
def d24 : DefT := ⟨"step_of", "step_of", defArgs (top 41), defBody (top 41), defScope (top 41), ["full"], ["full"], ir24⟩
def ir25 : Stms := (.cons (.exp (.call 15 (.cons (.con (.str "full")) (.cons (.var 0) .nil)))) (.cons (.asg (.nm 1) (.umt 3 (.call 23 (.cons (.var 0) .nil)) .nil)) (.cons (.whl (.val (.bin .lt (.var 1) (.con (.int 1)))) (.cons (.aug 1 .add (.call 24 (.cons (.var 0) .nil))) .nil)) (.cons (.ret (.var 1)) .nil))))
def d25 : DefT := ⟨"least_triangles", "least_triangles", defArgs (top 42), defBody (top 42), defScope (top 42), ["full", "number"], ["full"], ir25⟩
def ir26 : Stms := (.cons (.exp (.call 15 (.cons (.con (.str "full")) (.cons (.var 0) .nil)))) (.cons (.exp (.call 1 (.cons (.con (.str "many")) (.cons (.var 1) (.cons (.con (.int 1)) (.cons (.glo 0) .nil)))))) (.cons (.asg (.nm 2) (.call 25 (.cons (.var 0) .nil))) (.cons (.ret (.and (.bin .ge (.var 1) (.var 2)) (.bin .eq (.bin .mod (.bin .sub (.var 1) (.var 2)) (.call 24 (.cons (.var 0) .nil))) (.con (.int 0))))) .nil))))
def d26 : DefT := ⟨"may_lay", "may_lay", defArgs (top 43), defBody (top 43), defScope (top 43), ["full", "many", "least"], ["full", "many"], ir26⟩
def ir27 : Stms := (.cons (.ret (.dic [.inr "row", .inr "at", .inr "rest"] (.cons (.sl (.app .list (.cons (.var 0) .nil)) (.con .non) (.con (.int 70))) (.cons (.con (.int 0)) (.cons (.con (.int 0)) .nil))))) .nil)
def d27 : DefT := ⟨"_law_pen", "_law_pen", defArgs (top 45), defBody (top 45), defScope (top 45), ["script"], ["script"], ir27⟩
def ir28 : Stms := (.cons (.ite (.val (.bin .gt (.bin .ix (.var 0) (.con (.str "rest"))) (.con (.int 0)))) (.cons (.asg (.nm 2) (.bin .mod (.app .toInt (.cons (.bin .ix (.var 0) (.con (.str "rest"))) .nil)) (.var 1))) (.cons (.asg (.sub (.var 0) (.con (.str "rest"))) (.bin .fdiv (.app .toInt (.cons (.bin .ix (.var 0) (.con (.str "rest"))) .nil)) (.var 1))) (.cons (.ret (.var 2)) .nil))) .nil) (.cons (.asg (.tp (.cons (.nm 3) (.cons (.nm 4) .nil))) (.tup (.cons (.app .toInt (.cons (.bin .ix (.var 0) (.con (.str "at"))) .nil)) (.cons (.bin .ix (.var 0) (.con (.str "row"))) .nil)))) (.cons (.asg (.sub (.var 0) (.con (.str "at"))) (.bin .add (.var 3) (.con (.int 1)))) (.cons (.asg (.nm 5) (.ite (.val (.bin .ne (.var 4) (.lst .nil))) (.bin .ix (.var 4) (.bin .mod (.var 3) (.app .len (.cons (.var 4) .nil)))) (.bin .add (.bin .mul (.con (.int 4253)) (.var 3)) (.con (.int 93))))) (.cons (.asg (.nm 6) (.ite (.and (.val (.un .isInt (.var 5))) (.not (.val (.un .isBool (.var 5))))) (.var 5) (.con (.int 159)))) (.cons (.ite (.and (.val (.bin .lt (.var 3) (.app .len (.cons (.var 4) .nil)))) (.val (.bin .gt (.app .abs (.cons (.var 6) .nil)) (.bin .pow (.con (.int 10)) (.con (.int 17)))))) (.cons (.asg (.sub (.var 0) (.con (.str "rest"))) (.bin .fdiv (.app .abs (.cons (.var 6) .nil)) (.var 1))) (.cons (.ret (.bin .mod (.app .abs (.cons (.var 6) .nil)) (.var 1))) .nil)) .nil) (.cons (.asg (.nm 7) (.bin .mod (.bin .add (.bin .add (.bin .mod (.app .abs (.cons (.app .toInt (.cons (.var 6) .nil)) .nil)) (.con (.int 1000003))) (.bin .mul (.con (.int 5849)) (.var 3))) (.con (.int 59))) (.con (.int 1000003)))) (.cons (.asg (.nm 7) (.bin .mod (.bin .add (.bin .mul (.bin .mod (.bin .mul (.var 7) (.var 7)) (.con (.int 1000003))) (.bin .add (.var 3) (.con (.int 7)))) (.con (.int 4253))) (.con (.int 1000003)))) (.cons (.asg (.nm 7) (.bin .mod (.bin .add (.bin .mul (.var 7) (.var 7)) (.bin .mul (.con (.int 5849)) (.bin .add (.var 3) (.con (.int 1))))) (.con (.int 1000003)))) (.cons (.ret (.bin .mod (.app .toInt (.cons (.bin .fdiv (.var 7) (.con (.int 5))) .nil)) (.var 1))) .nil))))))))))
def d28 : DefT := ⟨"_law_draw", "_law_draw", defArgs (top 46), defBody (top 46), defScope (top 46), ["pen", "many", "digit", "at", "row", "told", "number", "stirred"], ["pen", "many"], ir28⟩
def ir29 : Stms := (.cons (.ret (.bin .ix (.var 1) (.call 28 (.cons (.var 0) (.cons (.app .len (.cons (.var 1) .nil)) .nil))))) .nil)
def d29 : DefT := ⟨"_law_pick", "_law_pick", defArgs (top 47), defBody (top 47), defScope (top 47), ["pen", "some"], ["pen", "some"], ir29⟩
def ir30 : Stms := (.cons (.ite (.val (.bin .lt (.app .len (.cons (.var 0) .nil)) (.con (.int 3)))) (.cons (.ret (.con (.bl true))) .nil) .nil) (.cons (.ret (.and (.bin .eq (.app .len (.cons (.var 0) .nil)) (.con (.int 3))) (.or (.bin .eq (.sl (.var 0) (.con .non) (.con (.int 2))) (.lst (.cons (.con (.int 2)) (.cons (.con (.int 2)) .nil)))) (.and (.bin .eq (.sl (.var 0) (.con .non) (.con (.int 2))) (.lst (.cons (.con (.int 2)) (.cons (.con (.int 3)) .nil)))) (.bin .le (.bin .ix (.var 0) (.con (.int 2))) (.con (.int 5))))))) .nil))
def d30 : DefT := ⟨"_law_is_round_ball", "_law_is_round_ball", defArgs (top 48), defBody (top 48), defScope (top 48), ["some"], ["some"], ir30⟩
def ir31 : Stms := (.cons (.ret (.bin .inn (.var 0) (.lst (.cons (.lst (.cons (.con (.int 2)) (.cons (.con (.int 2)) (.cons (.con (.int 2)) (.cons (.con (.int 2)) .nil))))) (.cons (.lst (.cons (.con (.int 3)) (.cons (.con (.int 3)) (.cons (.con (.int 3)) .nil)))) (.cons (.lst (.cons (.con (.int 2)) (.cons (.con (.int 4)) (.cons (.con (.int 4)) .nil)))) (.cons (.lst (.cons (.con (.int 2)) (.cons (.con (.int 3)) (.cons (.con (.int 6)) .nil)))) .nil))))))) .nil)
def d31 : DefT := ⟨"_law_is_flat_ball", "_law_is_flat_ball", defArgs (top 49), defBody (top 49), defScope (top 49), ["some"], ["some"], ir31⟩
def ir32 : Stms := (.cons (.asg (.nm 4) (.app .sorted (.cons (.lc (.seq (.var 2)) (.nm 5) (.val (.bin .gt (.var 5) (.con (.int 1)))) (.var 5) [5]) .nil))) (.cons (.asg (.nm 6) (.lc (.seq (.var 3)) (.nm 7) .yes (.lc (.seq (.var 7)) (.nm 5) (.val (.bin .gt (.var 5) (.con (.int 1)))) (.var 5) [5]) [7])) (.cons (.ite (.val (.bin .gt (.var 0) (.con (.int 0)))) (.cons (.ret (.ite (.val (.bin .eq (.tup (.cons (.var 0) (.cons (.var 4) (.cons (.var 6) .nil)))) (.tup (.cons (.con (.int 1)) (.cons (.lst .nil) (.cons (.lst .nil) .nil)))))) (.con (.str "flat")) (.con (.str "wild")))) .nil) .nil) (.cons (.ite (.or (.and (.val (.bin .gt (.var 1) (.con (.int 0)))) (.val (.bin .eq (.var 6) (.lst .nil)))) (.and (.val (.bin .eq (.var 1) (.con (.int 0)))) (.val (.bin .eq (.app .len (.cons (.var 6) .nil)) (.con (.int 1)))))) (.cons (.ite (.val (.bin .gt (.var 1) (.con (.int 1)))) (.cons (.ret (.ite (.and (.val (.bin .eq (.var 1) (.con (.int 2)))) (.val (.bin .eq (.var 4) (.lst .nil)))) (.con (.str "flat")) (.con (.str "wild")))) .nil) .nil) (.cons (.asg (.nm 8) (.app .sorted (.cons (.bin .add (.bin .add (.var 4) (.var 4)) (.app .sumL (.cons (.var 6) (.cons (.lst .nil) .nil)))) .nil))) (.cons (.ret (.ite (.val (.call 30 (.cons (.var 8) .nil))) (.con (.str "round")) (.ite (.val (.call 31 (.cons (.var 8) .nil))) (.con (.str "flat")) (.con (.str "wild"))))) .nil))) .nil) (.cons (.ite (.val (.bin .eq (.var 6) (.lst .nil))) (.cons (.ret (.ite (.val (.call 30 (.cons (.var 4) .nil))) (.con (.str "round")) (.ite (.val (.call 31 (.cons (.var 4) .nil))) (.con (.str "flat")) (.con (.str "wild"))))) .nil) .nil) (.cons (.asg (.nm 9) (.and (.bin .eq (.var 4) (.lst .nil)) (.bin .eq (.app .sumL (.cons (.var 6) (.cons (.lst .nil) .nil))) (.lst .nil)))) (.cons (.ret (.ite (.and (.val (.var 9)) (.val (.bin .inn (.tup (.cons (.var 1) (.cons (.app .len (.cons (.var 6) .nil)) .nil))) (.tup (.cons (.tup (.cons (.con (.int 0)) (.cons (.con (.int 2)) .nil))) (.cons (.tup (.cons (.con (.int 1)) (.cons (.con (.int 1)) .nil))) .nil)))))) (.con (.str "flat")) (.con (.str "wild")))) .nil)))))))
def d32 : DefT := ⟨"_law_kind", "_law_kind", defArgs (top 50), defBody (top 50), defScope (top 50), ["handles", "caps", "inner", "rings", "some", "order", "rims", "ring", "twice", "is_bare"], ["handles", "caps", "inner", "rings"], ir32⟩
def ir33 : Stms := (.cons (.asg (.nm 1) (.call 27 (.cons (.var 0) .nil))) (.cons (.asg (.tp (.cons (.nm 2) (.cons (.nm 3) .nil))) (.tup (.cons (.lst (.cons (.con (.int 1)) (.cons (.con (.int 2)) (.cons (.con (.int 2)) (.cons (.con (.int 2)) (.cons (.con (.int 3)) (.cons (.con (.int 3)) (.cons (.con (.int 4)) (.cons (.con (.int 5)) (.cons (.con (.int 6)) .nil)))))))))) (.cons (.lst (.cons (.con (.int 1)) (.cons (.con (.int 2)) (.cons (.con (.int 7)) (.cons (.con (.int 60)) (.cons (.con (.int 119)) (.cons (.con (.int 120)) .nil))))))) .nil)))) (.cons (.fo (.rng1 (.con (.int 30))) (.nm 4) (.cons (.asg (.nm 5) (.call 29 (.cons (.var 1) (.cons (.lst (.cons (.var 2) (.cons (.var 2) (.cons (.var 3) (.cons (.bin .add (.var 2) (.var 3)) .nil))))) .nil)))) (.cons (.asg (.tp (.cons (.nm 6) (.cons (.nm 7) .nil))) (.call 29 (.cons (.var 1) (.cons (.lst (.cons (.tup (.cons (.con (.int 0)) (.cons (.con (.int 0)) .nil))) (.cons (.tup (.cons (.con (.int 0)) (.cons (.con (.int 0)) .nil))) (.cons (.tup (.cons (.con (.int 0)) (.cons (.con (.int 0)) .nil))) (.cons (.tup (.cons (.con (.int 1)) (.cons (.con (.int 0)) .nil))) (.cons (.tup (.cons (.con (.int 0)) (.cons (.con (.int 1)) .nil))) (.cons (.tup (.cons (.con (.int 0)) (.cons (.con (.int 2)) .nil))) (.cons (.tup (.cons (.con (.int 2)) (.cons (.con (.int 0)) .nil))) (.cons (.tup (.cons (.con (.int 0)) (.cons (.con (.int 3)) .nil))) .nil))))))))) .nil)))) (.cons (.asg (.nm 8) (.lc (.rng1 (.call 28 (.cons (.var 1) (.cons (.con (.int 5)) .nil)))) (.nm 9) .yes (.call 29 (.cons (.var 1) (.cons (.var 5) .nil))) [9])) (.cons (.asg (.nm 10) (.lc (.rng1 (.call 29 (.cons (.var 1) (.cons (.lst (.cons (.con (.int 0)) (.cons (.con (.int 0)) (.cons (.con (.int 1)) (.cons (.con (.int 1)) (.cons (.con (.int 2)) (.cons (.con (.int 3)) .nil))))))) .nil)))) (.nm 9) .yes (.lc (.rng1 (.call 28 (.cons (.var 1) (.cons (.con (.int 5)) .nil)))) (.nm 11) .yes (.call 29 (.cons (.var 1) (.cons (.var 5) .nil))) [11]) [9])) (.cons (.asg (.nm 12) (.new 0 (.cons (.var 6) (.cons (.var 7) (.cons (.var 8) (.cons (.var 10) .nil)))))) (.cons (.asg (.tp (.cons (.nm 13) (.cons (.nm 14) .nil))) (.tup (.cons (.call 18 (.cons (.var 12) .nil)) (.cons (.call 17 (.cons (.var 12) .nil)) .nil)))) (.cons (.ite (.or (.val (.bin .ne (.var 13) (.call 32 (.cons (.var 6) (.cons (.var 7) (.cons (.var 8) (.cons (.var 10) .nil))))))) (.val (.bin .ne (.var 13) (.bin .ix (.lst (.cons (.con (.str "wild")) (.cons (.con (.str "flat")) (.cons (.con (.str "round")) .nil)))) (.bin .sub (.bin .add (.con (.int 1)) (.app .toInt (.cons (.bin .gt (.bin .ix (.var 14) (.con (.int 0))) (.con (.int 0))) .nil))) (.app .toInt (.cons (.bin .lt (.bin .ix (.var 14) (.con (.int 0))) (.con (.int 0))) .nil))))))) (.cons (.ret (.con (.bl false))) .nil) .nil) (.cons (.ite (.or (.and (.val (.bin .eq (.var 13) (.con (.str "round")))) (.or (.val (.bin .gt (.bin .ix (.var 14) (.con (.int 0))) (.bin .mul (.con (.int 4)) (.bin .ix (.var 14) (.con (.int 1)))))) (.val (.bin .lt (.bin .mul (.con (.int 120)) (.bin .ix (.var 14) (.con (.int 0)))) (.bin .ix (.var 14) (.con (.int 1))))))) (.and (.val (.call 19 (.cons (.var 12) .nil))) (.val (.bin .ne (.var 13) (.con (.str "round")))))) (.cons (.ret (.con (.bl false))) .nil) .nil) (.cons (.ite (.and (.val (.bin .eq (.var 13) (.con (.str "wild")))) (.val (.bin .gt (.bin .mul (.bin .ix (.var 14) (.con (.int 0))) (.con (.int 42))) (.bin .sub (.con (.int 0)) (.bin .ix (.var 14) (.con (.int 1))))))) (.cons (.ret (.con (.bl false))) .nil) .nil) (.cons (.ite (.or (.and (.val (.bin .ne (.var 10) (.lst .nil))) (.val (.bin .ne (.call 18 (.cons (.call 21 (.cons (.var 12) .nil)) .nil)) (.var 13)))) (.and (.val (.bin .gt (.var 7) (.con (.int 0)))) (.val (.bin .ne (.call 18 (.cons (.call 22 (.cons (.var 12) .nil)) .nil)) (.var 13))))) (.cons (.ret (.con (.bl false))) .nil) .nil) .nil))))))))))) (.cons (.asg (.nm 15) (.lst (.cons (.tup (.cons (.tup (.cons (.con (.int 1)) (.cons (.con (.int 0)) (.cons (.lst .nil) (.cons (.lst .nil) .nil))))) (.cons (.tup .nil) .nil))) (.cons (.tup (.cons (.tup (.cons (.con (.int 0)) (.cons (.con (.int 2)) (.cons (.lst .nil) (.cons (.lst .nil) .nil))))) (.cons (.tup .nil) .nil))) (.cons (.tup (.cons (.tup (.cons (.con (.int 0)) (.cons (.con (.int 0)) (.cons (.lst .nil) (.cons (.lst (.cons (.lst .nil) (.cons (.lst .nil) .nil))) .nil))))) (.cons (.tup .nil) .nil))) (.cons (.tup (.cons (.tup (.cons (.con (.int 0)) (.cons (.con (.int 1)) (.cons (.lst .nil) (.cons (.lst (.cons (.lst .nil) .nil)) .nil))))) (.cons (.tup .nil) .nil))) .nil)))))) (.cons (.asg (.nm 15) (.bin .add (.bin .add (.var 15) (.lc (.seq (.tup (.cons (.lst (.cons (.con (.int 2)) (.cons (.con (.int 2)) (.cons (.con (.int 2)) (.cons (.con (.int 2)) .nil))))) (.cons (.lst (.cons (.con (.int 3)) (.cons (.con (.int 3)) (.cons (.con (.int 3)) .nil)))) (.cons (.lst (.cons (.con (.int 2)) (.cons (.con (.int 4)) (.cons (.con (.int 4)) .nil)))) (.cons (.lst (.cons (.con (.int 2)) (.cons (.con (.int 3)) (.cons (.con (.int 6)) .nil)))) .nil)))))) (.nm 16) .yes (.tup (.cons (.tup (.cons (.con (.int 0)) (.cons (.con (.int 0)) (.cons (.var 16) (.cons (.lst .nil) .nil))))) (.cons (.tup .nil) .nil))) [16])) (.lst (.cons (.tup (.cons (.tup (.cons (.con (.int 0)) (.cons (.con (.int 1)) (.cons (.lst (.cons (.con (.int 2)) (.cons (.con (.int 2)) .nil))) (.cons (.lst .nil) .nil))))) (.cons (.tup .nil) .nil))) .nil)))) (.cons (.asg (.nm 15) (.bin .add (.var 15) (.lc (.seq (.tup (.cons (.tup (.cons (.lst .nil) (.cons (.lst (.cons (.con (.int 2)) (.cons (.con (.int 2)) (.cons (.con (.int 2)) (.cons (.con (.int 2)) .nil))))) .nil))) (.cons (.tup (.cons (.lst .nil) (.cons (.lst (.cons (.con (.int 3)) (.cons (.con (.int 3)) (.cons (.con (.int 3)) .nil)))) .nil))) (.cons (.tup (.cons (.lst .nil) (.cons (.lst (.cons (.con (.int 2)) (.cons (.con (.int 4)) (.cons (.con (.int 4)) .nil)))) .nil))) (.cons (.tup (.cons (.lst .nil) (.cons (.lst (.cons (.con (.int 2)) (.cons (.con (.int 3)) (.cons (.con (.int 6)) .nil)))) .nil))) (.cons (.tup (.cons (.lst (.cons (.con (.int 2)) .nil)) (.cons (.lst (.cons (.con (.int 2)) (.cons (.con (.int 2)) .nil))) .nil))) (.cons (.tup (.cons (.lst (.cons (.con (.int 2)) (.cons (.con (.int 2)) .nil))) (.cons (.lst .nil) .nil))) (.cons (.tup (.cons (.lst (.cons (.con (.int 3)) .nil)) (.cons (.lst (.cons (.con (.int 3)) .nil)) .nil))) (.cons (.tup (.cons (.lst (.cons (.con (.int 4)) .nil)) (.cons (.lst (.cons (.con (.int 2)) .nil)) .nil))) .nil)))))))))) (.tp (.cons (.nm 16) (.cons (.nm 17) .nil))) .yes (.tup (.cons (.tup (.cons (.con (.int 0)) (.cons (.con (.int 0)) (.cons (.var 16) (.cons (.lst (.cons (.var 17) .nil)) .nil))))) (.cons (.tup .nil) .nil))) [16, 17]))) (.cons (.fo (.seq (.var 15)) (.tp (.cons (.nm 18) (.cons (.nm 19) .nil))) (.cons (.asg (.nm 12) (.new 0 (.cons (.bin .ix (.var 18) (.con (.int 0))) (.cons (.bin .ix (.var 18) (.con (.int 1))) (.cons (.bin .ix (.var 18) (.con (.int 2))) (.cons (.bin .ix (.var 18) (.con (.int 3))) .nil)))))) (.cons (.ite (.or (.val (.bin .ne (.call 18 (.cons (.var 12) .nil)) (.con (.str "flat")))) (.or (.val (.bin .ne (.call 17 (.cons (.var 12) .nil)) (.tup (.cons (.con (.int 0)) (.cons (.con (.int 1)) .nil))))) (.or (.val (.call 19 (.cons (.var 12) .nil))) (.or (.val (.bin .lt (.call 25 (.cons (.var 12) .nil)) (.con (.int 1)))) (.not (.val (.call 26 (.cons (.var 12) (.cons (.call 25 (.cons (.var 12) .nil)) .nil))))))))) (.cons (.ret (.con (.bl false))) .nil) .nil) .nil))) (.cons (.ret (.bin .eq (.app .len (.cons (.var 15) .nil)) (.con (.int 17)))) .nil))))))))
def d33 : DefT := ⟨"law", "law", defArgs (top 51), defBody (top 51), defScope (top 51), ["script", "pen", "near", "far", "turn", "orders", "handles", "caps", "inner", "lap", "rings", "spot", "full", "kind", "told", "seventeen", "some", "ring", "parts", "rest"], ["script"], ir33⟩
def ir34 : Stms := (.cons (.exp (.call 1 (.cons (.con (.str "handles")) (.cons (.var 1) (.cons (.con (.int 0)) (.cons (.glo 2) .nil)))))) (.cons (.exp (.call 1 (.cons (.con (.str "caps")) (.cons (.var 2) (.cons (.con (.int 0)) (.cons (.glo 2) .nil)))))) (.cons (.ite (.and (.val (.bin .gt (.var 1) (.con (.int 0)))) (.val (.bin .gt (.var 2) (.con (.int 0))))) (.cons .never .nil) .nil) (.cons (.asg (.tp (.cons (.nm 5) (.cons (.nm 6) .nil))) (.tup (.cons (.call 13 (.cons (.con (.str "inner")) (.cons (.var 3) .nil))) (.cons (.call 14 (.cons (.var 4) .nil)) .nil)))) (.cons (.ite (.val (.bin .gt (.bin .add (.app .len (.cons (.var 5) .nil)) (.app .sum (.cons (.lc (.seq (.var 6)) (.nm 7) .yes (.app .max2 (.cons (.con (.int 1)) (.cons (.app .len (.cons (.var 7) .nil)) .nil))) [7]) .nil))) (.glo 3))) (.cons .never .nil) .nil) (.cons (.asg (.fld (.var 0) 6) (.var 1)) (.cons (.asg (.fld (.var 0) 7) (.var 2)) (.cons (.asg (.fld (.var 0) 8) (.app .tuple (.cons (.app .sorted (.cons (.var 5) .nil)) .nil))) (.cons (.asg (.fld (.var 0) 9) (.call 12 (.cons (.var 6) (.cons (.bin .eq (.var 2) (.con (.int 0))) .nil)))) (.cons (.asg (.fld (.var 0) 10) (.tup (.cons (.var 1) (.cons (.var 2) (.cons (.fld 8 (.var 0)) (.cons (.fld 9 (.var 0)) .nil)))))) .nil))))))))))
def d34 : DefT := ⟨"__init__", "Full.__init__", defArgs (inClass (top 29) 1), defBody (inClass (top 29) 1), defScope (inClass (top 29) 1), ["self", "handles", "caps", "inner", "rings", "row", "some", "ring"], ["self", "handles", "caps", "inner", "rings"], ir34⟩
def ir35 : Stms := (.cons (.ret (.bin .eq (.fld 7 (.var 0)) (.con (.int 0)))) .nil)
def d35 : DefT := ⟨"has_two_sides", "Full.has_two_sides", defArgs (inClass (top 29) 2), defBody (inClass (top 29) 2), defScope (inClass (top 29) 2), ["self"], ["self"], ir35⟩
def ir36 : Stms := (.cons (.ret (.bin .sub (.bin .sub (.bin .sub (.con (.int 2)) (.bin .mul (.con (.int 2)) (.fld 6 (.var 0)))) (.fld 7 (.var 0))) (.app .len (.cons (.fld 9 (.var 0)) .nil)))) .nil)
def d36 : DefT := ⟨"euler", "Full.euler", defArgs (inClass (top 29) 3), defBody (inClass (top 29) 3), defScope (inClass (top 29) 3), ["self"], ["self"], ir36⟩
def ir37 : Stms := (.cons (.ret (.bin .add (.app .len (.cons (.fld 8 (.var 0)) .nil)) (.app .sum (.cons (.lc (.seq (.fld 9 (.var 0))) (.nm 1) .yes (.app .len (.cons (.var 1) .nil)) [1]) .nil)))) .nil)
def d37 : DefT := ⟨"points", "Full.points", defArgs (inClass (top 29) 4), defBody (inClass (top 29) 4), defScope (inClass (top 29) 4), ["self", "ring"], ["self"], ir37⟩
def ir38 : Stms := (.cons (.ret (.bin .sub (.bin .add (.umt 2 (.var 0) .nil) (.app .len (.cons (.fld 8 (.var 0)) .nil))) (.bin .mul (.con (.int 2)) (.umt 1 (.var 0) .nil)))) .nil)
def d38 : DefT := ⟨"triangles", "Full.triangles", defArgs (inClass (top 29) 5), defBody (inClass (top 29) 5), defScope (inClass (top 29) 5), ["self"], ["self"], ir38⟩
def ir39 : Stms := (.cons .never .nil)
def d39 : DefT := ⟨"is_laid", "Full.is_laid", defArgs (inClass (top 29) 6), defBody (inClass (top 29) 6), defScope (inClass (top 29) 6), ["self"], ["self"], ir39⟩
def ir40 : Stms := (.cons (.asg (.nm 1) (.lc (.seq (.fld 9 (.var 0))) (.nm 3) .yes (.lc (.seq (.var 3)) (.nm 2) (.val (.bin .gt (.var 2) (.con (.int 1)))) (.var 2) [2]) [3])) (.cons (.ret (.new 0 (.cons (.fld 6 (.var 0)) (.cons (.fld 7 (.var 0)) (.cons (.lc (.seq (.fld 8 (.var 0))) (.nm 2) (.val (.bin .gt (.var 2) (.con (.int 1)))) (.var 2) [2]) (.cons (.var 1) .nil)))))) .nil))
def d40 : DefT := ⟨"without", "Full.without", defArgs (inClass (top 29) 7), defBody (inClass (top 29) 7), defScope (inClass (top 29) 7), ["self", "rings", "order", "ring"], ["self"], ir40⟩
def ir41 : Stms := (.cons .never .nil)
def d41 : DefT := ⟨"__eq__", "Full.__eq__", defArgs (inClass (top 29) 8), defBody (inClass (top 29) 8), defScope (inClass (top 29) 8), ["self", "other"], ["self", "other"], ir41⟩
def ir42 : Stms := (.cons .never .nil)
def d42 : DefT := ⟨"__repr__", "Full.__repr__", defArgs (inClass (top 29) 9), defBody (inClass (top 29) 9), defScope (inClass (top 29) 9), ["self"], ["self"], ir42⟩
def at0 (x : Str) : Str × Option Str := (x, none)
def at1 (x y : Str) : Str × Option Str := (x, some y)
def cfg : Cfg where
  T := [d0, d1, d2, d3, d4, d5, d6, d7, d8, d9, d10, d11, d12, d13, d14, d15, d16, d17, d18, d19, d20, d21, d22, d23, d24, d25, d26, d27, d28, d29, d30, d31, d32, d33, d34, d35, d36, d37, d38, d39, d40, d41, d42]
  at_ := [at0 "_wall", at0 "need_integer", at0 "need_row", at0 "is_integer", at0 "reduced", at0 "need_fraction", at0 "added", at0 "less", at0 "times", at0 "order_of", at0 "least_turn", at0 "turned_about", at0 "rings_in_order", at0 "need_orders", at0 "need_rings", at0 "need_full", at0 "lost_at", at0 "balance_of", at0 "kind_of", at0 "is_shut", at0 "of_euler", at0 "mirrored_full", at0 "unfolded_full", at0 "barest", at0 "step_of", at0 "least_triangles", at0 "may_lay", at0 "_law_pen", at0 "_law_draw", at0 "_law_pick", at0 "_law_is_round_ball", at0 "_law_is_flat_ball", at0 "_law_kind", at0 "law", at1 "Full" "__init__", at1 "Full" "has_two_sides", at1 "Full" "euler", at1 "Full" "points", at1 "Full" "triangles", at1 "Full" "is_laid", at1 "Full" "without", at1 "Full" "__eq__", at1 "Full" "__repr__"]
  nf := 34
  cn := ["Full"]
  ini := [34]
  gn := [("MOST_TRIANGLES", (.int 60)), ("MOST_ORDER", (.int 120)), ("MOST_HANDLES", (.int 60)), ("MOST_POINTS", (.int 62)), ("KINDS", (.gd 0))]
  nmL := ["has_two_sides", "euler", "points", "triangles", "is_laid", "without", "handles", "caps", "inner", "rings", "parts"]
  mth := [((0, 0), 35), ((0, 1), 36), ((0, 2), 37), ((0, 3), 38), ((0, 4), 39), ((0, 5), 40)]
  fld := [(0, 6), (0, 7), (0, 8), (0, 9), (0, 10)]
  free := ["abs", "all", "bool", "int", "isinstance", "len", "list", "max", "min", "range", "sorted", "sum", "tuple"]
  gcd := true
  isc := [0]
  wd := [("KINDS", [((-1), "wild"), (0, "flat"), (1, "round")])]
theorem cpure : cfg.pure = true := by decide +kernel
theorem ck0 : scopeB d0 = true ∧ ckSs cfg.E d0.N d0.scope d0.ir d0.body = true := by decide +kernel
theorem ck1 : scopeB d1 = true ∧ ckSs cfg.E d1.N d1.scope d1.ir d1.body = true := by decide +kernel
theorem ck2 : scopeB d2 = true ∧ ckSs cfg.E d2.N d2.scope d2.ir d2.body = true := by decide +kernel
theorem ck3 : scopeB d3 = true ∧ ckSs cfg.E d3.N d3.scope d3.ir d3.body = true := by decide +kernel
theorem ck4 : scopeB d4 = true ∧ ckSs cfg.E d4.N d4.scope d4.ir d4.body = true := by decide +kernel
theorem ck5 : scopeB d5 = true ∧ ckSs cfg.E d5.N d5.scope d5.ir d5.body = true := by decide +kernel
theorem ck6 : scopeB d6 = true ∧ ckSs cfg.E d6.N d6.scope d6.ir d6.body = true := by decide +kernel
theorem ck7 : scopeB d7 = true ∧ ckSs cfg.E d7.N d7.scope d7.ir d7.body = true := by decide +kernel
theorem ck8 : scopeB d8 = true ∧ ckSs cfg.E d8.N d8.scope d8.ir d8.body = true := by decide +kernel
theorem ck9 : scopeB d9 = true ∧ ckSs cfg.E d9.N d9.scope d9.ir d9.body = true := by decide +kernel
theorem ck10 : scopeB d10 = true ∧ ckSs cfg.E d10.N d10.scope d10.ir d10.body = true := by decide +kernel
theorem ck11 : scopeB d11 = true ∧ ckSs cfg.E d11.N d11.scope d11.ir d11.body = true := by decide +kernel
theorem ck12 : scopeB d12 = true ∧ ckSs cfg.E d12.N d12.scope d12.ir d12.body = true := by decide +kernel
theorem ck13 : scopeB d13 = true ∧ ckSs cfg.E d13.N d13.scope d13.ir d13.body = true := by decide +kernel
theorem ck14 : scopeB d14 = true ∧ ckSs cfg.E d14.N d14.scope d14.ir d14.body = true := by decide +kernel
theorem ck15 : scopeB d15 = true ∧ ckSs cfg.E d15.N d15.scope d15.ir d15.body = true := by decide +kernel
theorem ck16 : scopeB d16 = true ∧ ckSs cfg.E d16.N d16.scope d16.ir d16.body = true := by decide +kernel
theorem ck17 : scopeB d17 = true ∧ ckSs cfg.E d17.N d17.scope d17.ir d17.body = true := by decide +kernel
theorem ck18 : scopeB d18 = true ∧ ckSs cfg.E d18.N d18.scope d18.ir d18.body = true := by decide +kernel
theorem ck19 : scopeB d19 = true ∧ ckSs cfg.E d19.N d19.scope d19.ir d19.body = true := by decide +kernel
theorem ck20 : scopeB d20 = true ∧ ckSs cfg.E d20.N d20.scope d20.ir d20.body = true := by decide +kernel
theorem ck21 : scopeB d21 = true ∧ ckSs cfg.E d21.N d21.scope d21.ir d21.body = true := by decide +kernel
theorem ck22 : scopeB d22 = true ∧ ckSs cfg.E d22.N d22.scope d22.ir d22.body = true := by decide +kernel
theorem ck23 : scopeB d23 = true ∧ ckSs cfg.E d23.N d23.scope d23.ir d23.body = true := by decide +kernel
theorem ck24 : scopeB d24 = true ∧ ckSs cfg.E d24.N d24.scope d24.ir d24.body = true := by decide +kernel
theorem ck25 : scopeB d25 = true ∧ ckSs cfg.E d25.N d25.scope d25.ir d25.body = true := by decide +kernel
theorem ck26 : scopeB d26 = true ∧ ckSs cfg.E d26.N d26.scope d26.ir d26.body = true := by decide +kernel
theorem ck27 : scopeB d27 = true ∧ ckSs cfg.E d27.N d27.scope d27.ir d27.body = true := by decide +kernel
theorem ck28 : scopeB d28 = true ∧ ckSs cfg.E d28.N d28.scope d28.ir d28.body = true := by decide +kernel
theorem ck29 : scopeB d29 = true ∧ ckSs cfg.E d29.N d29.scope d29.ir d29.body = true := by decide +kernel
theorem ck30 : scopeB d30 = true ∧ ckSs cfg.E d30.N d30.scope d30.ir d30.body = true := by decide +kernel
theorem ck31 : scopeB d31 = true ∧ ckSs cfg.E d31.N d31.scope d31.ir d31.body = true := by decide +kernel
theorem ck32 : scopeB d32 = true ∧ ckSs cfg.E d32.N d32.scope d32.ir d32.body = true := by decide +kernel
theorem ck33 : scopeB d33 = true ∧ ckSs cfg.E d33.N d33.scope d33.ir d33.body = true := by decide +kernel
theorem ck34 : scopeB d34 = true ∧ ckSs cfg.E d34.N d34.scope d34.ir d34.body = true := by decide +kernel
theorem ck35 : scopeB d35 = true ∧ ckSs cfg.E d35.N d35.scope d35.ir d35.body = true := by decide +kernel
theorem ck36 : scopeB d36 = true ∧ ckSs cfg.E d36.N d36.scope d36.ir d36.body = true := by decide +kernel
theorem ck37 : scopeB d37 = true ∧ ckSs cfg.E d37.N d37.scope d37.ir d37.body = true := by decide +kernel
theorem ck38 : scopeB d38 = true ∧ ckSs cfg.E d38.N d38.scope d38.ir d38.body = true := by decide +kernel
theorem ck39 : scopeB d39 = true ∧ ckSs cfg.E d39.N d39.scope d39.ir d39.body = true := by decide +kernel
theorem ck40 : scopeB d40 = true ∧ ckSs cfg.E d40.N d40.scope d40.ir d40.body = true := by decide +kernel
theorem ck41 : scopeB d41 = true ∧ ckSs cfg.E d41.N d41.scope d41.ir d41.body = true := by decide +kernel
theorem ck42 : scopeB d42 = true ∧ ckSs cfg.E d42.N d42.scope d42.ir d42.body = true := by decide +kernel
theorem cks : AllT (fun d => scopeB d = true ∧ ckSs cfg.E d.N d.scope d.ir d.body = true) cfg.T := .cons ck0 (.cons ck1 (.cons ck2 (.cons ck3 (.cons ck4 (.cons ck5 (.cons ck6 (.cons ck7 (.cons ck8 (.cons ck9 (.cons ck10 (.cons ck11 (.cons ck12 (.cons ck13 (.cons ck14 (.cons ck15 (.cons ck16 (.cons ck17 (.cons ck18 (.cons ck19 (.cons ck20 (.cons ck21 (.cons ck22 (.cons ck23 (.cons ck24 (.cons ck25 (.cons ck26 (.cons ck27 (.cons ck28 (.cons ck29 (.cons ck30 (.cons ck31 (.cons ck32 (.cons ck33 (.cons ck34 (.cons ck35 (.cons ck36 (.cons ck37 (.cons ck38 (.cons ck39 (.cons ck40 (.cons ck41 (.cons ck42 (.nil)))))))))))))))))))))))))))))))))))))))))))
theorem bd0 : BindOk d0 := bind_1 rfl fun _ _ _ _ _ _ _ => rfl
theorem bd1 : BindOk d1 := bind_4 rfl fun _ _ _ _ _ _ _ _ _ _ => rfl
theorem bd2 : BindOk d2 := bind_2 rfl fun _ _ _ _ _ _ _ _ => rfl
theorem bd3 : BindOk d3 := bind_1 rfl fun _ _ _ _ _ _ _ => rfl
theorem bd4 : BindOk d4 := bind_2 rfl fun _ _ _ _ _ _ _ _ => rfl
theorem bd5 : BindOk d5 := bind_2 rfl fun _ _ _ _ _ _ _ _ => rfl
theorem bd6 : BindOk d6 := bind_2 rfl fun _ _ _ _ _ _ _ _ => rfl
theorem bd7 : BindOk d7 := bind_2 rfl fun _ _ _ _ _ _ _ _ => rfl
theorem bd8 : BindOk d8 := bind_2 rfl fun _ _ _ _ _ _ _ _ => rfl
theorem bd9 : BindOk d9 := bind_2 rfl fun _ _ _ _ _ _ _ _ => rfl
theorem bd10 : BindOk d10 := bind_1 rfl fun _ _ _ _ _ _ _ => rfl
theorem bd11 : BindOk d11 := bind_1 rfl fun _ _ _ _ _ _ _ => rfl
theorem bd12 : BindOk d12 := bind_2 rfl fun _ _ _ _ _ _ _ _ => rfl
theorem bd13 : BindOk d13 := bind_2 rfl fun _ _ _ _ _ _ _ _ => rfl
theorem bd14 : BindOk d14 := bind_1 rfl fun _ _ _ _ _ _ _ => rfl
theorem bd15 : BindOk d15 := bind_2 rfl fun _ _ _ _ _ _ _ _ => rfl
theorem bd16 : BindOk d16 := bind_1 rfl fun _ _ _ _ _ _ _ => rfl
theorem bd17 : BindOk d17 := bind_1 rfl fun _ _ _ _ _ _ _ => rfl
theorem bd18 : BindOk d18 := bind_1 rfl fun _ _ _ _ _ _ _ => rfl
theorem bd19 : BindOk d19 := bind_1 rfl fun _ _ _ _ _ _ _ => rfl
theorem bd20 : BindOk d20 := bind_4 rfl fun _ _ _ _ _ _ _ _ _ _ => rfl
theorem bd21 : BindOk d21 := bind_1 rfl fun _ _ _ _ _ _ _ => rfl
theorem bd22 : BindOk d22 := bind_1 rfl fun _ _ _ _ _ _ _ => rfl
theorem bd23 : BindOk d23 := bind_1 rfl fun _ _ _ _ _ _ _ => rfl
theorem bd24 : BindOk d24 := bind_1 rfl fun _ _ _ _ _ _ _ => rfl
theorem bd25 : BindOk d25 := bind_1 rfl fun _ _ _ _ _ _ _ => rfl
theorem bd26 : BindOk d26 := bind_2 rfl fun _ _ _ _ _ _ _ _ => rfl
theorem bd27 : BindOk d27 := bind_1 rfl fun _ _ _ _ _ _ _ => rfl
theorem bd28 : BindOk d28 := bind_2 rfl fun _ _ _ _ _ _ _ _ => rfl
theorem bd29 : BindOk d29 := bind_2 rfl fun _ _ _ _ _ _ _ _ => rfl
theorem bd30 : BindOk d30 := bind_1 rfl fun _ _ _ _ _ _ _ => rfl
theorem bd31 : BindOk d31 := bind_1 rfl fun _ _ _ _ _ _ _ => rfl
theorem bd32 : BindOk d32 := bind_4 rfl fun _ _ _ _ _ _ _ _ _ _ => rfl
theorem bd33 : BindOk d33 := bind_1 rfl fun _ _ _ _ _ _ _ => rfl
theorem bd34 : BindOk d34 := bind_5 rfl fun _ _ _ _ _ _ _ _ _ _ _ => rfl
theorem bd35 : BindOk d35 := bind_1 rfl fun _ _ _ _ _ _ _ => rfl
theorem bd36 : BindOk d36 := bind_1 rfl fun _ _ _ _ _ _ _ => rfl
theorem bd37 : BindOk d37 := bind_1 rfl fun _ _ _ _ _ _ _ => rfl
theorem bd38 : BindOk d38 := bind_1 rfl fun _ _ _ _ _ _ _ => rfl
theorem bd39 : BindOk d39 := bind_1 rfl fun _ _ _ _ _ _ _ => rfl
theorem bd40 : BindOk d40 := bind_1 rfl fun _ _ _ _ _ _ _ => rfl
theorem bd41 : BindOk d41 := bind_2 rfl fun _ _ _ _ _ _ _ _ => rfl
theorem bd42 : BindOk d42 := bind_1 rfl fun _ _ _ _ _ _ _ => rfl
theorem bds : AllT BindOk cfg.T := .cons bd0 (.cons bd1 (.cons bd2 (.cons bd3 (.cons bd4 (.cons bd5 (.cons bd6 (.cons bd7 (.cons bd8 (.cons bd9 (.cons bd10 (.cons bd11 (.cons bd12 (.cons bd13 (.cons bd14 (.cons bd15 (.cons bd16 (.cons bd17 (.cons bd18 (.cons bd19 (.cons bd20 (.cons bd21 (.cons bd22 (.cons bd23 (.cons bd24 (.cons bd25 (.cons bd26 (.cons bd27 (.cons bd28 (.cons bd29 (.cons bd30 (.cons bd31 (.cons bd32 (.cons bd33 (.cons bd34 (.cons bd35 (.cons bd36 (.cons bd37 (.cons bd38 (.cons bd39 (.cons bd40 (.cons bd41 (.cons bd42 (.nil)))))))))))))))))))))))))))))))))))))))))))
abbrev R : PySem.W.OpenRow := PySem.W.OpenLaw.row PySem.Challenge.rw_otherdiagonal_k14_whole_the_round_the_fl
def loose : List Str := (["gcd", "_wall", "PlanError", "BadValue", "BadNumber", "Misfit", "TooMany", "need_integer", "need_row", "is_integer", "reduced", "need_fraction", "added", "less", "times", "order_of", "MOST_TRIANGLES", "MOST_ORDER", "MOST_HANDLES", "MOST_POINTS", "KINDS", "least_turn", "turned_about", "rings_in_order", "need_orders", "need_rings", "Full", "need_full", "lost_at", "balance_of"] : List Str) ++ (["kind_of", "is_shut", "of_euler", "mirrored_full", "unfolded_full", "barest", "step_of", "least_triangles", "may_lay", "_law_pen", "_law_draw", "_law_pick", "_law_is_round_ball", "_law_is_flat_ball", "_law_kind"] : List Str)
abbrev hk : PySem.W.Hook := He.hookX 5 [] cfg.fn [] [] cfg.ex
def ob (s : PySem.W.SharedT) : He.AlX := He.obsX 5 [] cfg.fn [] [] cfg.ex (HandSHeadRun.getT s)
theorem ob_eq (s : PySem.W.SharedT) : ob s = hk.obs s.abs := He.obsX_eq (HandSHeadRun.getT_eq s)
theorem run (w : World) : HandSHeadRun.RunEqI R (PySem.W.view R.prog [0, 51]) hk ob 6000 loose w := by
  refine PySem.W.byRow2 "special-get-raises" (P := fun w => HandSHeadRun.RunEqI R (PySem.W.view R.prog [0, 51]) hk ob 6000 loose w) (fun w => ?_) (fun w => ?_) w
  · unfold HandSHeadRun.RunEqI
    kernel_rfl
  · unfold HandSHeadRun.RunEqI
    kernel_rfl
def sm : CS := sem cfg.G (prgOf cfg.T) 24
end K14
end

-- M1
section
set_option Elab.async false
set_option linter.all false
set_option maxRecDepth 100000
set_option maxHeartbeats 1000000
namespace K14
open PySem L2 Z
abbrev S (n : Nat) : CS := sem cfg.G (prgOf cfg.T) n
/-! ### what is let go -/
theorem zip_pre : ∀ (a b : Hh) (p : O × O), p ∈ a.zip (a ++ b) → p.1 = p.2
  | [], b, p, hp => by simp at hp
  | x :: xs, b, p, hp => by
    rcases List.mem_cons.mp hp with e | e
    · subst e; rfl
    · exact zip_pre xs b p e
theorem stable_app (h t : Hh) : stable h.length h (h ++ t) = true := by
  unfold stable
  rw [List.all_eq_true]
  intro p hp
  simp [zip_pre h t p hp]
theorem gc_pre {h t : Hh} {v : D} (b : below h.length v = true) : gc h (v, h ++ t) = (v, h) := by
  unfold gc
  simp [stable_app, b]
theorem gc_same {h : Hh} {v : D} (b : below h.length v = true) : gc h (v, h) = (v, h) := by
  have := gc_pre (h := h) (t := []) b
  simpa using this
theorem below_bl {n : Nat} {b : Bool} : below n (.bl b) = true := rfl
theorem below_int {n : Nat} {b : Int} : below n (.int b) = true := rfl
theorem below_non {n : Nat} : below n .non = true := rfl
theorem below_str {n : Nat} {b : Str} : below n (.str b) = true := rfl
theorem below_gd {n : Nat} {b : Nat} : below n (.gd b) = true := rfl
theorem below_tup {n : Nat} {xs : List D} : below n (.tup xs) = belows n xs := rfl
theorem truth_bl {h : Hh} {b : Bool} : truth h (.bl b) = some b := rfl
theorem truth_int {h : Hh} {b : Int} : truth h (.int b) = some (b != 0) := rfl
theorem truth_non {h : Hh} : truth h .non = some false := rfl
theorem eqP_int {h : Hh} {i j : Int} : eqP h (.int i) (.int j) = some (i == j) := by
  simp [eqP, toP, toPW, SeqAt.shaped, PyData.canLay0, PyData.depth, PyData.eqv]
theorem gcb1 {h : Hh} {b : Bool} : gc h (.bl b, h) = (.bl b, h) := gc_same rfl
theorem gcb2 {h t : Hh} {b : Bool} : gc h (.bl b, h ++ t) = (.bl b, h) := gc_pre rfl
theorem gci1 {h : Hh} {b : Int} : gc h (.int b, h) = (.int b, h) := gc_same rfl
theorem gci2 {h t : Hh} {b : Int} : gc h (.int b, h ++ t) = (.int b, h) := gc_pre rfl
theorem gcn1 {h : Hh} : gc h (.non, h) = (.non, h) := gc_same rfl
theorem gcn2 {h t : Hh} : gc h (.non, h ++ t) = (.non, h) := gc_pre rfl
theorem gcs1 {h : Hh} {b : Str} : gc h (.str b, h) = (.str b, h) := gc_same rfl
theorem gcs2 {h t : Hh} {b : Str} : gc h (.str b, h ++ t) = (.str b, h) := gc_pre rfl
theorem get_last {h : Hh} {o : O} : (h ++ [o])[h.length]? = some o := by simp
theorem set_last {h : Hh} {o o' : O} : (h ++ [o]).set h.length o' = h ++ [o'] := by simp
/-! ### arithmetic of the machine -/
theorem log2_lt {n k : Nat} (h : n < 2 ^ k) (hk : 0 < k) : n.log2 < k := by
  by_cases h0 : n = 0
  · subst h0; simpa using hk
  · exact (Nat.log2_lt h0).mpr h
theorem mulOk_of {i j : Int} (hi : i.natAbs < 2 ^ 64) (hj : j.natAbs < 2 ^ 64) : mulOk i j = true := by
  unfold mulOk
  have := log2_lt hi (by decide)
  have := log2_lt hj (by decide)
  exact decide_eq_true (by omega)
theorem divOk_of {j : Int} (h0 : j ≠ 0) (h : j.natAbs < 1073741824) : divOk j = true := by
  unfold divOk
  simp [h0, h]
/-! ### the text's defs -/
theorem fn1 (n vs h) : (S (n+1)).fn 1 vs h = Z.run cfg.G (S n) d1.fn vs h := rfl
theorem fn2 (n vs h) : (S (n+1)).fn 2 vs h = Z.run cfg.G (S n) d2.fn vs h := rfl
theorem fn3 (n vs h) : (S (n+1)).fn 3 vs h = Z.run cfg.G (S n) d3.fn vs h := rfl
theorem fn4 (n vs h) : (S (n+1)).fn 4 vs h = Z.run cfg.G (S n) d4.fn vs h := rfl
theorem fn5 (n vs h) : (S (n+1)).fn 5 vs h = Z.run cfg.G (S n) d5.fn vs h := rfl
theorem fn6 (n vs h) : (S (n+1)).fn 6 vs h = Z.run cfg.G (S n) d6.fn vs h := rfl
theorem fn7 (n vs h) : (S (n+1)).fn 7 vs h = Z.run cfg.G (S n) d7.fn vs h := rfl
theorem fn8 (n vs h) : (S (n+1)).fn 8 vs h = Z.run cfg.G (S n) d8.fn vs h := rfl
theorem fn9 (n vs h) : (S (n+1)).fn 9 vs h = Z.run cfg.G (S n) d9.fn vs h := rfl
theorem t_is (n : Nat) (i : Int) (h : Hh) : (S (n+1)).fn 3 [.int i] h = some (.bl true, h) := by
  rw [fn3]
  simp [Z.run, exs, ex.eq_1, ex.eq_2, ex.eq_3, ex.eq_4, ex.eq_5, ex.eq_6, ex.eq_7, ex.eq_8, ex.eq_9, ex.eq_10, ev.eq_1, ev.eq_2, ev.eq_3, ev.eq_4, ev.eq_5, ev.eq_6, ev.eq_7, ev.eq_8, ev.eq_9, ev.eq_10, ev.eq_11, ev.eq_12, ev.eq_13, ev.eq_14, ev.eq_15, ev.eq_16, ev.eq_17, ev.eq_18, ev.eq_19, ev.eq_22, ev.eq_23, evs, evT, evI, st, sts, prim1, prim2, primN, startD, truth_bl, truth_int, truth_non, ixD, seqOf, itSeq, tyD, newL, line, keyOf, kget, gOk, wipeD, allBls, allInts, atI, ixN, gc_pre, gc_same, gcb1, gcb2, gci1, gci2, gcn1, gcn2, gcs1, gcs2, below_bl, below_int, below_non, below_str, below_tup, below_gd, belows, eqP_int, get_last, set_last, enumD, d3, DefT.fn, ir3]
theorem t_isT (n : Nat) (xs : List D) (h : Hh) : (S (n+1)).fn 3 [.tup xs] h = some (.bl false, h) := by
  rw [fn3]
  simp [Z.run, exs, ex.eq_1, ex.eq_2, ex.eq_3, ex.eq_4, ex.eq_5, ex.eq_6, ex.eq_7, ex.eq_8, ex.eq_9, ex.eq_10, ev.eq_1, ev.eq_2, ev.eq_3, ev.eq_4, ev.eq_5, ev.eq_6, ev.eq_7, ev.eq_8, ev.eq_9, ev.eq_10, ev.eq_11, ev.eq_12, ev.eq_13, ev.eq_14, ev.eq_15, ev.eq_16, ev.eq_17, ev.eq_18, ev.eq_19, ev.eq_22, ev.eq_23, evs, evT, evI, st, sts, prim1, prim2, primN, startD, truth_bl, truth_int, truth_non, ixD, seqOf, itSeq, tyD, newL, line, keyOf, kget, gOk, wipeD, allBls, allInts, atI, ixN, gc_pre, gc_same, gcb1, gcb2, gci1, gci2, gcn1, gcn2, gcs1, gcs2, below_bl, below_int, below_non, below_str, below_tup, below_gd, belows, eqP_int, get_last, set_last, enumD, d3, DefT.fn, ir3]
theorem t_needint (n : Nat) (p : Str) (v l m : Int) (h : Hh) (h1 : l ≤ v) (h2 : v ≤ m) : (S (n+1)).fn 1 [.str p, .int v, .int l, .int m] h = some (.non, h) := by
  rw [fn1]
  have e1 : ¬ v < l := by omega
  have e2 : ¬ m < v := by omega
  simp [Z.run, exs, ex.eq_1, ex.eq_2, ex.eq_3, ex.eq_4, ex.eq_5, ex.eq_6, ex.eq_7, ex.eq_8, ex.eq_9, ex.eq_10, ev.eq_1, ev.eq_2, ev.eq_3, ev.eq_4, ev.eq_5, ev.eq_6, ev.eq_7, ev.eq_8, ev.eq_9, ev.eq_10, ev.eq_11, ev.eq_12, ev.eq_13, ev.eq_14, ev.eq_15, ev.eq_16, ev.eq_17, ev.eq_18, ev.eq_19, ev.eq_22, ev.eq_23, evs, evT, evI, st, sts, prim1, prim2, primN, startD, truth_bl, truth_int, truth_non, ixD, seqOf, itSeq, tyD, newL, line, keyOf, kget, gOk, wipeD, allBls, allInts, atI, ixN, gc_pre, gc_same, gcb1, gcb2, gci1, gci2, gcn1, gcn2, gcs1, gcs2, below_bl, below_int, below_non, below_str, below_tup, below_gd, belows, eqP_int, get_last, set_last, enumD, d1, DefT.fn, ir1, e1, e2]
theorem t_reduced (n : Nat) (p q : Int) (h : Hh) (hd : divOk ((Nat.gcd p.natAbs q.natAbs : Nat) : Int) = true) : (S (n+1)).fn 4 [.int p, .int q] h = some (if q < 0 then .tup [.int ((-p).fdiv (Nat.gcd p.natAbs q.natAbs : Nat)), .int ((-q).fdiv (Nat.gcd p.natAbs q.natAbs : Nat))] else .tup [.int (p.fdiv (Nat.gcd p.natAbs q.natAbs : Nat)), .int (q.fdiv (Nat.gcd p.natAbs q.natAbs : Nat))], h) := by
  rw [fn4]
  by_cases hq : q < 0
  · simp [Z.run, exs, ex.eq_1, ex.eq_2, ex.eq_3, ex.eq_4, ex.eq_5, ex.eq_6, ex.eq_7, ex.eq_8, ex.eq_9, ex.eq_10, ev.eq_1, ev.eq_2, ev.eq_3, ev.eq_4, ev.eq_5, ev.eq_6, ev.eq_7, ev.eq_8, ev.eq_9, ev.eq_10, ev.eq_11, ev.eq_12, ev.eq_13, ev.eq_14, ev.eq_15, ev.eq_16, ev.eq_17, ev.eq_18, ev.eq_19, ev.eq_22, ev.eq_23, evs, evT, evI, st, sts, prim1, prim2, primN, startD, truth_bl, truth_int, truth_non, ixD, seqOf, itSeq, tyD, newL, line, keyOf, kget, gOk, wipeD, allBls, allInts, atI, ixN, gc_pre, gc_same, gcb1, gcb2, gci1, gci2, gcn1, gcn2, gcs1, gcs2, below_bl, below_int, below_non, below_str, below_tup, below_gd, belows, eqP_int, get_last, set_last, enumD, d4, DefT.fn, ir4, hq, hd]
  · simp [Z.run, exs, ex.eq_1, ex.eq_2, ex.eq_3, ex.eq_4, ex.eq_5, ex.eq_6, ex.eq_7, ex.eq_8, ex.eq_9, ex.eq_10, ev.eq_1, ev.eq_2, ev.eq_3, ev.eq_4, ev.eq_5, ev.eq_6, ev.eq_7, ev.eq_8, ev.eq_9, ev.eq_10, ev.eq_11, ev.eq_12, ev.eq_13, ev.eq_14, ev.eq_15, ev.eq_16, ev.eq_17, ev.eq_18, ev.eq_19, ev.eq_22, ev.eq_23, evs, evT, evI, st, sts, prim1, prim2, primN, startD, truth_bl, truth_int, truth_non, ixD, seqOf, itSeq, tyD, newL, line, keyOf, kget, gOk, wipeD, allBls, allInts, atI, ixN, gc_pre, gc_same, gcb1, gcb2, gci1, gci2, gcn1, gcn2, gcs1, gcs2, below_bl, below_int, below_non, below_str, below_tup, below_gd, belows, eqP_int, get_last, set_last, enumD, d4, DefT.fn, ir4, hq, hd]
/-- a fraction in lowest terms: B parts of 14280 -/
def Fr (d : D) (B : Int) : Prop := ∃ p q : Int, d = .tup [.int p, .int q] ∧ 0 < q ∧ Nat.gcd p.natAbs q.natAbs = 1 ∧ p * 14280 = B * q
theorem Fr.den {p q B : Int} (hq : 0 < q) (hg : Nat.gcd p.natAbs q.natAbs = 1) (e : p * 14280 = B * q) : q ≤ 14280 ∧ p.natAbs ≤ B.natAbs := by
  have h1 : q.natAbs ∣ p.natAbs * 14280 := by
    have : (p * 14280).natAbs = (B * q).natAbs := by rw [e]
    rw [Int.natAbs_mul, Int.natAbs_mul] at this
    exact ⟨B.natAbs, by rw [show (14280 : Int).natAbs = 14280 from rfl] at this; rw [this, Nat.mul_comm]⟩
  have h2 : q.natAbs ∣ 14280 := (Nat.Coprime.dvd_of_dvd_mul_left (by rw [Nat.Coprime, Nat.gcd_comm]; exact hg) h1)
  have h3 := Nat.le_of_dvd (by decide) h2
  refine ⟨by omega, ?_⟩
  have : (p * 14280).natAbs = (B * q).natAbs := by rw [e]
  rw [Int.natAbs_mul, Int.natAbs_mul, show (14280 : Int).natAbs = 14280 from rfl] at this
  have h4 : B.natAbs * q.natAbs ≤ B.natAbs * 14280 := Nat.mul_le_mul_left _ h3
  omega
theorem t_low (n : Nat) (p q B : Int) (h : Hh) (hq : 0 < q) (hb : q < 1073741824) (e : p * 14280 = B * q) : ∃ d, (S (n+1)).fn 4 [.int p, .int q] h = some (d, h) ∧ Fr d B := by
  have hg0 : 0 < Nat.gcd p.natAbs q.natAbs := Nat.gcd_pos_of_pos_right _ (by omega)
  have hgq : Nat.gcd p.natAbs q.natAbs ≤ q.natAbs := Nat.gcd_le_right _ (by omega)
  obtain ⟨a, ha⟩ := Nat.gcd_dvd_left p.natAbs q.natAbs
  obtain ⟨b, hb'⟩ := Nat.gcd_dvd_right p.natAbs q.natAbs
  have hd : divOk ((Nat.gcd p.natAbs q.natAbs : Nat) : Int) = true := divOk_of (by omega) (by omega)
  refine ⟨_, t_reduced n p q h hd, ?_⟩
  have hn : ¬ q < 0 := by omega
  simp only [hn, if_false]
  generalize hgg : Nat.gcd p.natAbs q.natAbs = g at *
  have hgi : (g : Int) ≠ 0 := by omega
  obtain ⟨p', hp'⟩ : (g : Int) ∣ p := Int.ofNat_dvd_left.mpr ⟨a, ha⟩
  obtain ⟨q', hq'⟩ : (g : Int) ∣ q := Int.ofNat_dvd_left.mpr ⟨b, hb'⟩
  have e1 : p.fdiv g = p' := by rw [hp']; exact Int.mul_fdiv_cancel_left _ hgi
  have e2 : q.fdiv g = q' := by rw [hq']; exact Int.mul_fdiv_cancel_left _ hgi
  rw [e1, e2]
  refine ⟨p', q', rfl, ?_, ?_, ?_⟩
  · have : 0 < (g : Int) * q' := by rw [← hq']; exact hq
    apply Int.lt_of_not_ge
    intro hle
    have h2 := Int.mul_le_mul_of_nonneg_left hle (show (0 : Int) ≤ g by omega)
    rw [Int.mul_zero] at h2
    omega
  · have h1 : p.natAbs = g * p'.natAbs := by rw [hp', Int.natAbs_mul]; rfl
    have h2 : q.natAbs = g * q'.natAbs := by rw [hq', Int.natAbs_mul]; rfl
    rw [h1, h2, Nat.gcd_mul_left] at hgg
    have : g * Nat.gcd p'.natAbs q'.natAbs = g * 1 := by omega
    exact Nat.eq_of_mul_eq_mul_left hg0 this
  · rw [hp', hq'] at e
    have : (g : Int) * (p' * 14280) = (g : Int) * (B * q') := by
      rw [← Int.mul_assoc, e, Int.mul_left_comm]
    exact Int.eq_of_mul_eq_mul_left hgi this
/-- what need_fraction takes: an int, a fraction -/
theorem t_nfI (n : Nat) (p : Str) (i : Int) (h : Hh) : (S (n+2)).fn 5 [.str p, .int i] h = some (.tup [.int i, .int 1], h) := by
  rw [fn5]
  simp [Z.run, exs, ex.eq_1, ex.eq_2, ex.eq_3, ex.eq_4, ex.eq_5, ex.eq_6, ex.eq_7, ex.eq_8, ex.eq_9, ex.eq_10, ev.eq_1, ev.eq_2, ev.eq_3, ev.eq_4, ev.eq_5, ev.eq_6, ev.eq_7, ev.eq_8, ev.eq_9, ev.eq_10, ev.eq_11, ev.eq_12, ev.eq_13, ev.eq_14, ev.eq_15, ev.eq_16, ev.eq_17, ev.eq_18, ev.eq_19, ev.eq_22, ev.eq_23, evs, evT, evI, st, sts, prim1, prim2, primN, startD, truth_bl, truth_int, truth_non, ixD, seqOf, itSeq, tyD, newL, line, keyOf, kget, gOk, wipeD, allBls, allInts, atI, ixN, gc_pre, gc_same, gcb1, gcb2, gci1, gci2, gcn1, gcn2, gcs1, gcs2, below_bl, below_int, below_non, below_str, below_tup, below_gd, belows, eqP_int, get_last, set_last, enumD, ev, ex, lcGo, d5, DefT.fn, ir5, t_is]
theorem t_nfT (n : Nat) (p : Str) (d : D) (B : Int) (h : Hh) (hd : Fr d B) : (S (n+2)).fn 5 [.str p, d] h = some (d, h) := by
  obtain ⟨a, b, rfl, hb, hg, e⟩ := hd
  have e1 : ¬ b < 1 := by omega
  have hr := t_reduced n a b (h ++ [.lst [.bl true, .bl true]]) (by rw [hg]; decide)
  have hn : ¬ b < 0 := by omega
  rw [hg] at hr
  simp only [hn, if_false] at hr
  rw [fn5]
  simp [Z.run, exs, ex.eq_1, ex.eq_2, ex.eq_3, ex.eq_4, ex.eq_5, ex.eq_6, ex.eq_7, ex.eq_8, ex.eq_9, ex.eq_10, ev.eq_1, ev.eq_2, ev.eq_3, ev.eq_4, ev.eq_5, ev.eq_6, ev.eq_7, ev.eq_8, ev.eq_9, ev.eq_10, ev.eq_11, ev.eq_12, ev.eq_13, ev.eq_14, ev.eq_15, ev.eq_16, ev.eq_17, ev.eq_18, ev.eq_19, ev.eq_22, ev.eq_23, evs, evT, evI, st, sts, prim1, prim2, primN, startD, truth_bl, truth_int, truth_non, ixD, seqOf, itSeq, tyD, newL, line, keyOf, kget, gOk, wipeD, allBls, allInts, atI, ixN, gc_pre, gc_same, gcb1, gcb2, gci1, gci2, gcn1, gcn2, gcs1, gcs2, below_bl, below_int, below_non, below_str, below_tup, below_gd, belows, eqP_int, get_last, set_last, enumD, ev, ex, lcGo, d5, DefT.fn, ir5, t_isT, t_is, e1, hr]
/-- what stands for B parts: an int, a fraction -/
def Nu (d : D) (B : Int) : Prop := Fr d B ∨ ∃ i : Int, d = .int i ∧ B = 14280 * i
theorem t_nf (n : Nat) (p : Str) (d : D) (B : Int) (h : Hh) (hd : Nu d B) : ∃ a b : Int, (S (n+2)).fn 5 [.str p, d] h = some (.tup [.int a, .int b], h) ∧ 0 < b ∧ Nat.gcd a.natAbs b.natAbs = 1 ∧ a * 14280 = B * b := by
  rcases hd with hd | ⟨i, rfl, rfl⟩
  · have e := t_nfT n p d B h hd
    obtain ⟨a, b, rfl, h1, h2, h3⟩ := hd
    exact ⟨a, b, e, h1, h2, h3⟩
  · exact ⟨i, 1, t_nfI n p i h, by decide, by simp, by omega⟩
theorem small_of {a b B : Int} (hb : 0 < b) (hg : Nat.gcd a.natAbs b.natAbs = 1) (e : a * 14280 = B * b) (hB : B.natAbs < 2 ^ 40) : a.natAbs < 2 ^ 40 ∧ b.natAbs ≤ 14280 ∧ b ≤ 14280 := by
  obtain ⟨h1, h2⟩ := Fr.den hb hg e
  exact ⟨by omega, by omega, h1⟩
theorem prod_ub {b d : Int} (hb : 0 < b) (hd : 0 < d) (h1 : b ≤ 14280) (h2 : d ≤ 14280) : 0 < b * d ∧ b * d < 1073741824 := by
  refine ⟨Int.mul_pos hb hd, ?_⟩
  have := Int.mul_le_mul h1 h2 (by omega) (by omega)
  omega
theorem t_added (n : Nat) (x y : D) (A B : Int) (h : Hh) (hx : Nu x A) (hy : Nu y B) (hA : A.natAbs < 2 ^ 40) (hB : B.natAbs < 2 ^ 40) : ∃ d, (S (n+3)).fn 6 [x, y] h = some (d, h) ∧ Fr d (A + B) := by
  obtain ⟨a, b, e1, b0, g1, q1⟩ := t_nf n "one" x A h hx
  obtain ⟨c, d, e2, d0, g2, q2⟩ := t_nf n "other" y B h hy
  obtain ⟨s1, s2, s3⟩ := small_of b0 g1 q1 hA
  obtain ⟨s4, s5, s6⟩ := small_of d0 g2 q2 hB
  obtain ⟨m1, m2⟩ := prod_ub b0 d0 s3 s6
  have k1 : mulOk a d = true := mulOk_of (by omega) (by omega)
  have k2 : mulOk c b = true := mulOk_of (by omega) (by omega)
  have k3 : mulOk b d = true := mulOk_of (by omega) (by omega)
  obtain ⟨r, e3, fr⟩ := t_low (n + 1) (a * d + c * b) (b * d) (A + B) h m1 m2 (by
    have h1 : (a * d + c * b) * 14280 = (a * 14280) * d + (c * 14280) * b := by
      rw [Int.add_mul, Int.mul_right_comm a d, Int.mul_right_comm c b]
    rw [h1, q1, q2, Int.add_mul]
    congr 1
    · rw [Int.mul_assoc]
    · rw [Int.mul_assoc, Int.mul_comm d b])
  refine ⟨r, ?_, fr⟩
  have hl : below h.length r = true := by
    obtain ⟨p, q, rfl, _⟩ := fr
    rfl
  rw [fn6]
  simp [Z.run, exs, ex.eq_1, ex.eq_2, ex.eq_3, ex.eq_4, ex.eq_5, ex.eq_6, ex.eq_7, ex.eq_8, ex.eq_9, ex.eq_10, ev.eq_1, ev.eq_2, ev.eq_3, ev.eq_4, ev.eq_5, ev.eq_6, ev.eq_7, ev.eq_8, ev.eq_9, ev.eq_10, ev.eq_11, ev.eq_12, ev.eq_13, ev.eq_14, ev.eq_15, ev.eq_16, ev.eq_17, ev.eq_18, ev.eq_19, ev.eq_22, ev.eq_23, evs, evT, evI, st, sts, prim1, prim2, primN, startD, truth_bl, truth_int, truth_non, ixD, seqOf, itSeq, tyD, newL, line, keyOf, kget, gOk, wipeD, allBls, allInts, atI, ixN, gc_pre, gc_same, gcb1, gcb2, gci1, gci2, gcn1, gcn2, gcs1, gcs2, below_bl, below_int, below_non, below_str, below_tup, below_gd, belows, eqP_int, get_last, set_last, enumD, d6, DefT.fn, ir6, e1, e2, k1, k2, k3, e3]
  exact gc_same hl
theorem t_less (n : Nat) (x y : D) (A B : Int) (h : Hh) (hx : Nu x A) (hy : Nu y B) (hA : A.natAbs < 2 ^ 40) (hB : B.natAbs < 2 ^ 40) : ∃ d, (S (n+3)).fn 7 [x, y] h = some (d, h) ∧ Fr d (A - B) := by
  obtain ⟨a, b, e1, b0, g1, q1⟩ := t_nf n "one" x A h hx
  obtain ⟨c, d, e2, d0, g2, q2⟩ := t_nf n "other" y B h hy
  obtain ⟨s1, s2, s3⟩ := small_of b0 g1 q1 hA
  obtain ⟨s4, s5, s6⟩ := small_of d0 g2 q2 hB
  obtain ⟨m1, m2⟩ := prod_ub b0 d0 s3 s6
  have k1 : mulOk a d = true := mulOk_of (by omega) (by omega)
  have k2 : mulOk c b = true := mulOk_of (by omega) (by omega)
  have k3 : mulOk b d = true := mulOk_of (by omega) (by omega)
  obtain ⟨r, e3, fr⟩ := t_low (n + 1) (a * d - c * b) (b * d) (A - B) h m1 m2 (by
    have h1 : (a * d - c * b) * 14280 = (a * 14280) * d - (c * 14280) * b := by
      rw [Int.sub_mul, Int.mul_right_comm a d, Int.mul_right_comm c b]
    rw [h1, q1, q2, Int.sub_mul]
    congr 1
    · rw [Int.mul_assoc]
    · rw [Int.mul_assoc, Int.mul_comm d b])
  refine ⟨r, ?_, fr⟩
  have hl : below h.length r = true := by
    obtain ⟨p, q, rfl, _⟩ := fr
    rfl
  rw [fn7]
  simp [Z.run, exs, ex.eq_1, ex.eq_2, ex.eq_3, ex.eq_4, ex.eq_5, ex.eq_6, ex.eq_7, ex.eq_8, ex.eq_9, ex.eq_10, ev.eq_1, ev.eq_2, ev.eq_3, ev.eq_4, ev.eq_5, ev.eq_6, ev.eq_7, ev.eq_8, ev.eq_9, ev.eq_10, ev.eq_11, ev.eq_12, ev.eq_13, ev.eq_14, ev.eq_15, ev.eq_16, ev.eq_17, ev.eq_18, ev.eq_19, ev.eq_22, ev.eq_23, evs, evT, evI, st, sts, prim1, prim2, primN, startD, truth_bl, truth_int, truth_non, ixD, seqOf, itSeq, tyD, newL, line, keyOf, kget, gOk, wipeD, allBls, allInts, atI, ixN, gc_pre, gc_same, gcb1, gcb2, gci1, gci2, gcn1, gcn2, gcs1, gcs2, below_bl, below_int, below_non, below_str, below_tup, below_gd, belows, eqP_int, get_last, set_last, enumD, d7, DefT.fn, ir7, e1, e2, k1, k2, k3, e3]
  exact gc_same hl
/-- twice -/
theorem t_twice (n : Nat) (y : D) (B : Int) (h : Hh) (hy : Fr y B) (hB : B.natAbs < 2 ^ 40) : ∃ d, (S (n+3)).fn 8 [.int 2, y] h = some (d, h) ∧ Fr d (2 * B) := by
  have e1 := t_nfI n "one" 2 h
  obtain ⟨c, d, e2, d0, g2, q2⟩ := t_nf n "other" y B h (.inl hy)
  obtain ⟨s4, s5, s6⟩ := small_of d0 g2 q2 hB
  have k1 : mulOk 2 c = true := mulOk_of (by decide) (by omega)
  have k2 : mulOk 1 d = true := mulOk_of (by decide) (by omega)
  obtain ⟨r, e3, fr⟩ := t_low (n + 1) (2 * c) d (2 * B) h (by omega) (by omega) (by rw [Int.mul_assoc, q2, Int.mul_assoc])
  refine ⟨r, ?_, fr⟩
  have hl : below h.length r = true := by
    obtain ⟨p, q, rfl, _⟩ := fr
    rfl
  rw [fn8]
  simp [Z.run, exs, ex.eq_1, ex.eq_2, ex.eq_3, ex.eq_4, ex.eq_5, ex.eq_6, ex.eq_7, ex.eq_8, ex.eq_9, ex.eq_10, ev.eq_1, ev.eq_2, ev.eq_3, ev.eq_4, ev.eq_5, ev.eq_6, ev.eq_7, ev.eq_8, ev.eq_9, ev.eq_10, ev.eq_11, ev.eq_12, ev.eq_13, ev.eq_14, ev.eq_15, ev.eq_16, ev.eq_17, ev.eq_18, ev.eq_19, ev.eq_22, ev.eq_23, evs, evT, evI, st, sts, prim1, prim2, primN, startD, truth_bl, truth_int, truth_non, ixD, seqOf, itSeq, tyD, newL, line, keyOf, kget, gOk, wipeD, allBls, allInts, atI, ixN, gc_pre, gc_same, gcb1, gcb2, gci1, gci2, gcn1, gcn2, gcs1, gcs2, below_bl, below_int, below_non, below_str, below_tup, below_gd, belows, eqP_int, get_last, set_last, enumD, d8, DefT.fn, ir8, e1, e2, k1, k2, e3]
  exact gc_same hl
/-- the sign -/
def sg (B : Int) : Int := if 0 < B then 1 else if B < 0 then -1 else 0
theorem t_order (n : Nat) (x : D) (A : Int) (h : Hh) (hx : Fr x A) (hA : A.natAbs < 2 ^ 40) : (S (n+3)).fn 9 [x, .int 0] h = some (.int (sg A), h) := by
  obtain ⟨a, b, e1, b0, g1, q1⟩ := t_nf n "one" x A h (.inl hx)
  have e2 := t_nfI n "other" 0 h
  obtain ⟨s1, s2, s3⟩ := small_of b0 g1 q1 hA
  have k1 : mulOk a 1 = true := mulOk_of (by omega) (by decide)
  have k2 : mulOk 0 b = true := mulOk_of (by decide) (by omega)
  have hs : sg a = sg A := by
    unfold sg
    by_cases h1 : 0 < A
    · have : 0 < A * b := Int.mul_pos h1 b0
      have : 0 < a := by omega
      simp [h1, this]
    · by_cases h2 : A < 0
      · have : A * b < 0 := Int.mul_neg_of_neg_of_pos h2 b0
        have h3 : a < 0 := by omega
        have h4 : ¬ 0 < a := by omega
        simp [h1, h2, h3, h4]
      · have h3 : A = 0 := by omega
        subst h3
        have : a = 0 := by omega
        subst this
        rfl
  rw [← hs, fn9]
  unfold sg
  by_cases h1 : 0 < a
  · have h2 : ¬ a < 0 := by omega
    simp [Z.run, exs, ex.eq_1, ex.eq_2, ex.eq_3, ex.eq_4, ex.eq_5, ex.eq_6, ex.eq_7, ex.eq_8, ex.eq_9, ex.eq_10, ev.eq_1, ev.eq_2, ev.eq_3, ev.eq_4, ev.eq_5, ev.eq_6, ev.eq_7, ev.eq_8, ev.eq_9, ev.eq_10, ev.eq_11, ev.eq_12, ev.eq_13, ev.eq_14, ev.eq_15, ev.eq_16, ev.eq_17, ev.eq_18, ev.eq_19, ev.eq_22, ev.eq_23, evs, evT, evI, st, sts, prim1, prim2, primN, startD, truth_bl, truth_int, truth_non, ixD, seqOf, itSeq, tyD, newL, line, keyOf, kget, gOk, wipeD, allBls, allInts, atI, ixN, gc_pre, gc_same, gcb1, gcb2, gci1, gci2, gcn1, gcn2, gcs1, gcs2, below_bl, below_int, below_non, below_str, below_tup, below_gd, belows, eqP_int, get_last, set_last, enumD, d9, DefT.fn, ir9, e1, e2, k1, k2, h1, h2]
  · by_cases h2 : a < 0
    · simp [Z.run, exs, ex.eq_1, ex.eq_2, ex.eq_3, ex.eq_4, ex.eq_5, ex.eq_6, ex.eq_7, ex.eq_8, ex.eq_9, ex.eq_10, ev.eq_1, ev.eq_2, ev.eq_3, ev.eq_4, ev.eq_5, ev.eq_6, ev.eq_7, ev.eq_8, ev.eq_9, ev.eq_10, ev.eq_11, ev.eq_12, ev.eq_13, ev.eq_14, ev.eq_15, ev.eq_16, ev.eq_17, ev.eq_18, ev.eq_19, ev.eq_22, ev.eq_23, evs, evT, evI, st, sts, prim1, prim2, primN, startD, truth_bl, truth_int, truth_non, ixD, seqOf, itSeq, tyD, newL, line, keyOf, kget, gOk, wipeD, allBls, allInts, atI, ixN, gc_pre, gc_same, gcb1, gcb2, gci1, gci2, gcn1, gcn2, gcs1, gcs2, below_bl, below_int, below_non, below_str, below_tup, below_gd, belows, eqP_int, get_last, set_last, enumD, d9, DefT.fn, ir9, e1, e2, k1, k2, h1, h2]
    · simp [Z.run, exs, ex.eq_1, ex.eq_2, ex.eq_3, ex.eq_4, ex.eq_5, ex.eq_6, ex.eq_7, ex.eq_8, ex.eq_9, ex.eq_10, ev.eq_1, ev.eq_2, ev.eq_3, ev.eq_4, ev.eq_5, ev.eq_6, ev.eq_7, ev.eq_8, ev.eq_9, ev.eq_10, ev.eq_11, ev.eq_12, ev.eq_13, ev.eq_14, ev.eq_15, ev.eq_16, ev.eq_17, ev.eq_18, ev.eq_19, ev.eq_22, ev.eq_23, evs, evT, evI, st, sts, prim1, prim2, primN, startD, truth_bl, truth_int, truth_non, ixD, seqOf, itSeq, tyD, newL, line, keyOf, kget, gOk, wipeD, allBls, allInts, atI, ixN, gc_pre, gc_same, gcb1, gcb2, gci1, gci2, gcn1, gcn2, gcs1, gcs2, below_bl, below_int, below_non, below_str, below_tup, below_gd, belows, eqP_int, get_last, set_last, enumD, d9, DefT.fn, ir9, e1, e2, k1, k2, h1, h2]
end K14
end

-- M2
section
set_option Elab.async false
set_option linter.all false
set_option maxRecDepth 100000
set_option maxHeartbeats 1000000
namespace K14
open PySem L2 Z
/-- whole numbers as data -/
def zs (l : List Int) : List D := l.map D.int
theorem zs_len {l : List Int} : (zs l).length = l.length := by simp [zs]
theorem zs_mem {l : List Int} {x : D} (h : x ∈ zs l) : ∃ i ∈ l, x = .int i := by
  obtain ⟨i, h1, h2⟩ := List.mem_map.mp h
  exact ⟨i, h1, h2.symm⟩
theorem zs_nil : zs [] = [] := rfl
theorem zs_cons {i : Int} {l : List Int} : zs (i :: l) = .int i :: zs l := rfl
theorem zs_app {a b : List Int} : zs (a ++ b) = zs a ++ zs b := by simp [zs]
/-! ### statement by statement -/
theorem exs_nx {G : GEnv} {cs : CS} {c : Stm} {cc : Stms} {s s2 : Sl} {h h2 : Hh} {r : Option Out} (e : ex G cs c s h = some (.nx s2 h2)) (k : exs G cs cc s2 h2 = r) : exs G cs (.cons c cc) s h = r := by
  simp only [exs, e, k]
theorem exs_rt {G : GEnv} {cs : CS} {c : Stm} {cc : Stms} {s : Sl} {h h2 : Hh} {v : D} (e : ex G cs c s h = some (.rt v h2)) : exs G cs (.cons c cc) s h = some (.rt v h2) := by
  simp only [exs, e]
theorem run_rt {G : GEnv} {cs : CS} {f : Fn} {vs : List D} {h h' : Hh} {v : D} {r : D × Hh} (hl : vs.length = f.np) (e : exs G cs f.body (startD f.nn vs) h = some (.rt v h')) (k : gc h (v, h') = r) : Z.run G cs f vs h = some r := by
  simp only [Z.run, hl, if_true, e, k]
theorem run_nx {G : GEnv} {cs : CS} {f : Fn} {vs : List D} {h h' : Hh} {s : Sl} {r : D × Hh} (hl : vs.length = f.np) (e : exs G cs f.body (startD f.nn vs) h = some (.nx s h')) (k : gc h (.non, h') = r) : Z.run G cs f vs h = some r := by
  simp only [Z.run, hl, if_true, e, k]
theorem app_at {h t : Hh} {n : Nat} {o : O} (e : h[n]? = some o) : (h ++ t)[n]? = some o := by
  have hl := (List.getElem?_eq_some_iff.mp e).1
  rw [List.getElem?_append_left hl]
  exact e
theorem gOk_app {g : Gd} {h t : Hh} (e : gOk g h = true) : gOk g (h ++ t) = true := by
  unfold gOk at e ⊢
  rw [List.all_eq_true] at e ⊢
  intro p hp
  have := e p hp
  simp only [decide_eq_true_eq] at this ⊢
  exact app_at this
/-- a comprehension whose body leaves the store as it is -/
theorem lcGo_pure {body : D → Hh → Option (Option D × Hh)} {g : Gd} {h : Hh} {f : D → Option D} : ∀ {xs : List D} {acc : List D}, (∀ x ∈ xs, ∀ acc, body x (h ++ [.lst acc]) = some (f x, h ++ [.lst acc])) → gOk g h = true → acc.length + xs.length ≤ Z.line →
    lcGo body g h.length xs (h ++ [.lst acc]) = some (h ++ [.lst (acc ++ xs.filterMap f)])
  | [], acc, hb, hg, hl => by
    simp [lcGo, gOk_app hg]
  | x :: xs, acc, hb, hg, hl => by
    simp only [lcGo, gOk_app hg, if_true]
    rw [hb x List.mem_cons_self]
    have hb' := fun y hy => hb y (List.mem_cons_of_mem _ hy)
    simp only [List.length_cons] at hl
    cases hf : f x with
    | none =>
      simp only
      rw [lcGo_pure hb' hg (by omega)]
      simp [hf]
    | some y =>
      simp only [get_last]
      rw [if_pos (by omega), set_last, lcGo_pure hb' hg (by simp; omega)]
      simp [hf]
theorem ev_lc {G : GEnv} {cs : CS} {it : Z.It} {t : Z.Tg} {ifs : Ts} {e : Ex} {own : List Nat} {s : Sl} {h h1 : Hh} {xs : List D} {g : Gd} {f : D → Option D} (hi : evI G cs it s h = some (xs, g, h1))
    (hb : ∀ x ∈ xs, ∀ acc, ∃ s2, st G cs t x (wipeD s own) (h1 ++ [.lst acc]) = some (s2, h1 ++ [.lst acc]) ∧ ((∃ y, evT G cs ifs s2 (h1 ++ [.lst acc]) = some (true, h1 ++ [.lst acc]) ∧ ev G cs e s2 (h1 ++ [.lst acc]) = some (y, h1 ++ [.lst acc]) ∧ f x = some y) ∨ (evT G cs ifs s2 (h1 ++ [.lst acc]) = some (false, h1 ++ [.lst acc]) ∧ f x = none)))
    (hg : gOk g h1 = true) (hl : xs.length ≤ Z.line) : ev G cs (.lc it t ifs e own) s h = some (.ref h1.length, h1 ++ [.lst (xs.filterMap f)]) := by
  simp only [ev, hi]
  rw [lcGo_pure (f := f) (fun x hx acc => ?_) hg (by simpa using hl)]
  · simp
  · obtain ⟨s2, e1, e2⟩ := hb x hx acc
    rcases e2 with ⟨y, e2, e3, e4⟩ | ⟨e2, e4⟩
    · simp only [e1, e2, e3, e4]
    · simp only [e1, e2, e4]
/-- a row: a tuple, a list -/
def SeqV (h : Hh) (v : D) (xs : List D) : Prop := v = .tup xs ∨ ∃ n, v = .ref n ∧ h[n]? = some (.lst xs)
theorem SeqV.app {h t : Hh} {v : D} {xs : List D} (q : SeqV h v xs) : SeqV (h ++ t) v xs := by
  rcases q with q | ⟨n, q, e⟩
  · exact .inl q
  · exact .inr ⟨n, q, app_at e⟩
theorem SeqV.it {h : Hh} {v : D} {xs : List D} (q : SeqV h v xs) : ∃ g, itSeq h v = some (xs, g) ∧ gOk g h = true := by
  rcases q with rfl | ⟨n, rfl, e⟩
  · exact ⟨[], rfl, rfl⟩
  · exact ⟨[(n, .lst xs)], by simp [itSeq, e], by simp [gOk, e]⟩
theorem SeqV.seq {h : Hh} {v : D} {xs : List D} (q : SeqV h v xs) : seqOf h v = some xs := by
  rcases q with rfl | ⟨n, rfl, e⟩
  · rfl
  · simp [seqOf, e]
theorem SeqV.ty {h : Hh} {v : D} {xs : List D} (q : SeqV h v xs) : tyD h v = some .tup ∨ tyD h v = some .lst := by
  rcases q with rfl | ⟨n, rfl, e⟩
  · exact .inl rfl
  · exact .inr (by simp [tyD, e])
theorem allBls_true : ∀ (xs : List D), allBls (xs.map fun _ => D.bl true) = some (xs.map fun _ => true)
  | [] => rfl
  | x :: xs => by
    have := allBls_true xs
    simp only [List.map_cons, allBls, this, Option.map_some]
theorem all_tt {α : Type} {xs : List α} : (xs.all fun _ => true) = true := by
  induction xs with
  | nil => rfl
  | cons x xs ih => simp [ih]
theorem belows_ints : ∀ {n : Nat} {l : List Int}, belows n (zs l) = true
  | n, [] => rfl
  | n, i :: l => by
    show (below n (.int i) && belows n (zs l)) = true
    rw [belows_ints]
    rfl
theorem below_zs {n : Nat} {l : List Int} : below n (.tup (zs l)) = true := belows_ints
theorem t_needrow (n : Nat) (p : Str) (v : D) (l : List Int) (h : Hh) (q : SeqV h v (zs l)) (hl : l.length ≤ Z.line) : (S (n+1)).fn 2 [.str p, v] h = some (.tup (zs l), h) := by
  obtain ⟨g, i1, i2⟩ := q.it
  have sq : ∀ t, seqOf (h ++ t) v = some (zs l) := fun t => q.app.seq
  have ty : decide (tyD h v = some .lst ∨ tyD h v = some .tup) = true := by
    rcases q.ty with e | e <;> simp [e]
  rw [fn2]
  rcases q.ty with e | e
  · simp [Z.run, exs, ex, ev, evs, evT, evI, d2, DefT.fn, ir2, startD, prim1, primN, e, i1, truth]
    rw [lcGo_pure (f := fun _ => some (.bl true)) (fun x hx acc => ?_) i2 (by simpa [zs_len] using hl)]
    · simp [allBls_true, all_tt, sq, truth]
      exact gc_pre below_zs
    · obtain ⟨i, _, rfl⟩ := zs_mem hx
      simp [Z.run, exs, ex.eq_1, ex.eq_2, ex.eq_3, ex.eq_4, ex.eq_5, ex.eq_6, ex.eq_7, ex.eq_8, ex.eq_9, ex.eq_10, ev.eq_1, ev.eq_2, ev.eq_3, ev.eq_4, ev.eq_5, ev.eq_6, ev.eq_7, ev.eq_8, ev.eq_9, ev.eq_10, ev.eq_11, ev.eq_12, ev.eq_13, ev.eq_14, ev.eq_15, ev.eq_16, ev.eq_17, ev.eq_18, ev.eq_19, ev.eq_22, ev.eq_23, evs, evT, evI, st, sts, prim1, prim2, primN, startD, truth_bl, truth_int, truth_non, ixD, seqOf, itSeq, tyD, newL, line, keyOf, kget, gOk, wipeD, allBls, allInts, atI, ixN, gc_pre, gc_same, gcb1, gcb2, gci1, gci2, gcn1, gcn2, gcs1, gcs2, below_bl, below_int, below_non, below_str, below_tup, below_gd, belows, eqP_int, get_last, set_last, enumD]
  · simp [Z.run, exs, ex, ev, evs, evT, evI, d2, DefT.fn, ir2, startD, prim1, primN, e, i1, truth]
    rw [lcGo_pure (f := fun _ => some (.bl true)) (fun x hx acc => ?_) i2 (by simpa [zs_len] using hl)]
    · simp [allBls_true, all_tt, sq, truth]
      exact gc_pre below_zs
    · obtain ⟨i, _, rfl⟩ := zs_mem hx
      simp [Z.run, exs, ex.eq_1, ex.eq_2, ex.eq_3, ex.eq_4, ex.eq_5, ex.eq_6, ex.eq_7, ex.eq_8, ex.eq_9, ex.eq_10, ev.eq_1, ev.eq_2, ev.eq_3, ev.eq_4, ev.eq_5, ev.eq_6, ev.eq_7, ev.eq_8, ev.eq_9, ev.eq_10, ev.eq_11, ev.eq_12, ev.eq_13, ev.eq_14, ev.eq_15, ev.eq_16, ev.eq_17, ev.eq_18, ev.eq_19, ev.eq_22, ev.eq_23, evs, evT, evI, st, sts, prim1, prim2, primN, startD, truth_bl, truth_int, truth_non, ixD, seqOf, itSeq, tyD, newL, line, keyOf, kget, gOk, wipeD, allBls, allInts, atI, ixN, gc_pre, gc_same, gcb1, gcb2, gci1, gci2, gcn1, gcn2, gcs1, gcs2, below_bl, below_int, below_non, below_str, below_tup, below_gd, belows, eqP_int, get_last, set_last, enumD]
theorem fn10 (n vs h) : (S (n+1)).fn 10 vs h = Z.run cfg.G (S n) d10.fn vs h := rfl
theorem fn11 (n vs h) : (S (n+1)).fn 11 vs h = Z.run cfg.G (S n) d11.fn vs h := rfl
theorem fn12 (n vs h) : (S (n+1)).fn 12 vs h = Z.run cfg.G (S n) d12.fn vs h := rfl
theorem fn13 (n vs h) : (S (n+1)).fn 13 vs h = Z.run cfg.G (S n) d13.fn vs h := rfl
theorem fn14 (n vs h) : (S (n+1)).fn 14 vs h = Z.run cfg.G (S n) d14.fn vs h := rfl
/-- a walk whose turns leave the store as it is -/
theorem forL_pure {b : D → Sl → Hh → Option Out} {g : Gd} {h : Hh} (J : Sl → Prop) : ∀ {xs : List D} {s : Sl}, (∀ x ∈ xs, ∀ s, J s → ∃ s', b x s h = some (.nx s' h) ∧ J s') → gOk g h = true → J s → ∃ s', forL g b xs s h = some (.nx s' h) ∧ J s'
  | [], s, hb, hg, hj => ⟨s, by simp [forL, hg], hj⟩
  | x :: xs, s, hb, hg, hj => by
    obtain ⟨s1, e1, j1⟩ := hb x List.mem_cons_self s hj
    obtain ⟨s2, e2, j2⟩ := forL_pure J (s := s1) (fun y hy => hb y (List.mem_cons_of_mem _ hy)) hg j1
    exact ⟨s2, by simp [forL, hg, e1, e2], j2⟩
def OkOrd (l : List Int) : Prop := ∀ i ∈ l, 1 ≤ i ∧ i ≤ 120
theorem fo_pure {G : GEnv} {cs : CS} {it : Z.It} {t : Z.Tg} {b : Stms} {s : Sl} {h h1 : Hh} {xs : List D} {g : Gd} (he : evI G cs it s h = some (xs, g, h1)) (J : Sl → Prop)
    (hb : ∀ x ∈ xs, ∀ s, J s → ∃ s2 s', st G cs t x s h1 = some (s2, h1) ∧ exs G cs b s2 h1 = some (.nx s' h1) ∧ J s') (hg : gOk g h1 = true) (hj : J s) : ∃ s', ex G cs (.fo it t b) s h = some (.nx s' h1) ∧ J s' := by
  simp only [ex, he]
  refine forL_pure J (fun x hx s js => ?_) hg hj
  obtain ⟨s2, s', e1, e2, j⟩ := hb x hx s js
  exact ⟨s', by simp only [e1, e2], j⟩
theorem t_needorders (n : Nat) (p : Str) (v : D) (l : List Int) (h : Hh) (q : SeqV h v (zs l)) (hl : l.length ≤ Z.line) (ho : OkOrd l) : (S (n+2)).fn 13 [.str p, v] h = some (.tup (zs l), h) := by
  have e1 := t_needrow n p v l h q hl
  rw [fn13]
  obtain ⟨s', e2, j⟩ := fo_pure (G := cfg.G) (cs := S (n + 1)) (it := .seq (.var 2)) (t := .nm 3) (b := .cons (.exp (.call 1 (.cons (.var 0) (.cons (.var 3) (.cons (.con (.int 1)) (.cons (.glo 1) .nil)))))) .nil) (s := [some (.str p), some v, some (.tup (zs l)), none]) (h := h) (h1 := h) (xs := zs l) (g := []) (by simp [Z.run, exs, ex.eq_1, ex.eq_2, ex.eq_3, ex.eq_4, ex.eq_5, ex.eq_6, ex.eq_7, ex.eq_8, ex.eq_9, ex.eq_10, ev.eq_1, ev.eq_2, ev.eq_3, ev.eq_4, ev.eq_5, ev.eq_6, ev.eq_7, ev.eq_8, ev.eq_9, ev.eq_10, ev.eq_11, ev.eq_12, ev.eq_13, ev.eq_14, ev.eq_15, ev.eq_16, ev.eq_17, ev.eq_18, ev.eq_19, ev.eq_22, ev.eq_23, evs, evT, evI, st, sts, prim1, prim2, primN, startD, truth_bl, truth_int, truth_non, ixD, seqOf, itSeq, tyD, newL, line, keyOf, kget, gOk, wipeD, allBls, allInts, atI, ixN, gc_pre, gc_same, gcb1, gcb2, gci1, gci2, gcn1, gcn2, gcs1, gcs2, below_bl, below_int, below_non, below_str, below_tup, below_gd, belows, eqP_int, get_last, set_last, enumD])
    (fun s => ∃ o, s = [some (.str p), some v, some (.tup (zs l)), o]) (fun x hx s js => by
      obtain ⟨o, rfl⟩ := js
      obtain ⟨i, hi, rfl⟩ := zs_mem hx
      obtain ⟨o1, o2⟩ := ho i hi
      have e3 := t_needint n p i 1 120 h o1 o2
      refine ⟨[some (.str p), some v, some (.tup (zs l)), some (.int i)], [some (.str p), some v, some (.tup (zs l)), some (.int i)], by simp [Z.run, exs, ex.eq_1, ex.eq_2, ex.eq_3, ex.eq_4, ex.eq_5, ex.eq_6, ex.eq_7, ex.eq_8, ex.eq_9, ex.eq_10, ev.eq_1, ev.eq_2, ev.eq_3, ev.eq_4, ev.eq_5, ev.eq_6, ev.eq_7, ev.eq_8, ev.eq_9, ev.eq_10, ev.eq_11, ev.eq_12, ev.eq_13, ev.eq_14, ev.eq_15, ev.eq_16, ev.eq_17, ev.eq_18, ev.eq_19, ev.eq_22, ev.eq_23, evs, evT, evI, st, sts, prim1, prim2, primN, startD, truth_bl, truth_int, truth_non, ixD, seqOf, itSeq, tyD, newL, line, keyOf, kget, gOk, wipeD, allBls, allInts, atI, ixN, gc_pre, gc_same, gcb1, gcb2, gci1, gci2, gcn1, gcn2, gcs1, gcs2, below_bl, below_int, below_non, below_str, below_tup, below_gd, belows, eqP_int, get_last, set_last, enumD], ?_, _, rfl⟩
      simp [Z.run, exs, ex.eq_1, ex.eq_2, ex.eq_3, ex.eq_4, ex.eq_5, ex.eq_6, ex.eq_7, ex.eq_8, ex.eq_9, ex.eq_10, ev.eq_1, ev.eq_2, ev.eq_3, ev.eq_4, ev.eq_5, ev.eq_6, ev.eq_7, ev.eq_8, ev.eq_9, ev.eq_10, ev.eq_11, ev.eq_12, ev.eq_13, ev.eq_14, ev.eq_15, ev.eq_16, ev.eq_17, ev.eq_18, ev.eq_19, ev.eq_22, ev.eq_23, evs, evT, evI, st, sts, prim1, prim2, primN, startD, truth_bl, truth_int, truth_non, ixD, seqOf, itSeq, tyD, newL, line, keyOf, kget, gOk, wipeD, allBls, allInts, atI, ixN, gc_pre, gc_same, gcb1, gcb2, gci1, gci2, gcn1, gcn2, gcs1, gcs2, below_bl, below_int, below_non, below_str, below_tup, below_gd, belows, eqP_int, get_last, set_last, enumD, show cfg.G.glo 1 = .int 120 from rfl, e3]) rfl ⟨none, rfl⟩
  obtain ⟨o, rfl⟩ := j
  refine run_rt rfl (exs_nx (s2 := [some (.str p), some v, some (.tup (zs l)), none]) (h2 := h) (by simp [Z.run, exs, ex.eq_1, ex.eq_2, ex.eq_3, ex.eq_4, ex.eq_5, ex.eq_6, ex.eq_7, ex.eq_8, ex.eq_9, ex.eq_10, ev.eq_1, ev.eq_2, ev.eq_3, ev.eq_4, ev.eq_5, ev.eq_6, ev.eq_7, ev.eq_8, ev.eq_9, ev.eq_10, ev.eq_11, ev.eq_12, ev.eq_13, ev.eq_14, ev.eq_15, ev.eq_16, ev.eq_17, ev.eq_18, ev.eq_19, ev.eq_22, ev.eq_23, evs, evT, evI, st, sts, prim1, prim2, primN, startD, truth_bl, truth_int, truth_non, ixD, seqOf, itSeq, tyD, newL, line, keyOf, kget, gOk, wipeD, allBls, allInts, atI, ixN, gc_pre, gc_same, gcb1, gcb2, gci1, gci2, gcn1, gcn2, gcs1, gcs2, below_bl, below_int, below_non, below_str, below_tup, below_gd, belows, eqP_int, get_last, set_last, enumD, d13, DefT.fn, e1]) (exs_nx e2 (exs_rt (v := .tup (zs l)) (h2 := h) (by simp [Z.run, exs, ex.eq_1, ex.eq_2, ex.eq_3, ex.eq_4, ex.eq_5, ex.eq_6, ex.eq_7, ex.eq_8, ex.eq_9, ex.eq_10, ev.eq_1, ev.eq_2, ev.eq_3, ev.eq_4, ev.eq_5, ev.eq_6, ev.eq_7, ev.eq_8, ev.eq_9, ev.eq_10, ev.eq_11, ev.eq_12, ev.eq_13, ev.eq_14, ev.eq_15, ev.eq_16, ev.eq_17, ev.eq_18, ev.eq_19, ev.eq_22, ev.eq_23, evs, evT, evI, st, sts, prim1, prim2, primN, startD, truth_bl, truth_int, truth_non, ixD, seqOf, itSeq, tyD, newL, line, keyOf, kget, gOk, wipeD, allBls, allInts, atI, ixN, gc_pre, gc_same, gcb1, gcb2, gci1, gci2, gcn1, gcn2, gcs1, gcs2, below_bl, below_int, below_non, below_str, below_tup, below_gd, belows, eqP_int, get_last, set_last, enumD])))) (gc_same below_zs)
end K14
end

-- M3
section
set_option Elab.async false
set_option linter.all false
set_option maxRecDepth 100000
set_option maxHeartbeats 1000000
namespace K14
open PySem L2 Z
abbrev row (l : List Int) : D := .tup (zs l)
theorem toPWs_zs {r : Nat → Option PyData} : ∀ (l : List Int), toPWs r (zs l) = some (l.map PyData.int)
  | [] => rfl
  | i :: l => by
    rw [zs_cons]
    simp [toPWs, toPW, toPWs_zs l]
theorem toP_row {h : Hh} {l : List Int} : toP h (row l) = some (.tuple (l.map .int)) := by
  simp [toP, toPW, toPWs_zs]
theorem enc_row {h : Hh} {l : List Int} : encD h (row l) = .tuple (l.map .int) := by
  simp [encD, toP_row]
theorem alike_row {h : Hh} {a b : List Int} : PySem.W.alike (encD h (row a)) (encD h (row b)) = true := by
  rw [enc_row, enc_row]
  simp [PySem.W.alike, PySem.W.alike_ints]
theorem depth_rows {h : Hh} : ∀ (ls : List (List Int)), PyData.depthAll ((ls.map row).map (encD h)) ≤ 1
  | [] => by simp [PyData.depthAll]
  | l :: ls => by
    have := depth_rows (h := h) ls
    simp only [List.map_cons, enc_row, PyData.depthAll]
    have e : (PyData.tuple (l.map .int)).depth = 1 := by simp [PyData.depth, PySem.W.depth_ints]
    rw [e]
    exact Nat.max_le.mpr ⟨Nat.le_refl _, this⟩
theorem data_rows {h : Hh} (ls : List (List Int)) : dataB h (ls.map row) = true := by
  have d := depth_rows (h := h) ls
  simp only [dataB, Bool.and_eq_true, decide_eq_true_eq, List.all_map, List.all_eq_true, Function.comp]
  refine ⟨⟨⟨fun l _ => by rw [toP_row]; rfl, fun a _ b _ => alike_row⟩, fun l _ => by rw [enc_row]; rfl⟩, by omega⟩
theorem sort_rows {h : Hh} (ls : List (List Int)) : sortB h (ls.map row) = true := by
  simp only [sortB, Bool.or_eq_true, List.all_map, List.all_eq_true, Function.comp]
  exact .inl fun l _ => by rw [enc_row]; rfl
theorem argBest_le (bt : Nat → Nat → Bool) : ∀ k, argBest bt k ≤ k
  | 0 => by simp [argBest]
  | k + 1 => by
    have := argBest_le bt k
    simp only [argBest]
    split <;> omega
/-- cut, whole numbers -/
def cutZ (xs : List Int) (lo hi : Option Int) : List Int := (xs.drop (HT.sIx xs.length 0 lo)).take (HT.sIx xs.length xs.length hi - HT.sIx xs.length 0 lo)
theorem cut_zs {l : List Int} {lo hi : Option Int} : cutD (zs l) lo hi = zs (cutZ l lo hi) := by
  simp [cutD, cutZ, zs, List.map_take, List.map_drop]
theorem cut_len {l : List Int} {lo hi : Option Int} : (cutZ l lo hi).length ≤ l.length := by
  simp only [cutZ, List.length_take, List.length_drop]
  omega
theorem rot_perm {l : List Int} {i : Nat} (h : i < l.length) : (cutZ l (some (i : Int)) none ++ cutZ l none (some (i : Int))).Perm l := by
  have e1 : cutZ l (some (i : Int)) none = l.drop i := by
    have h1 : HT.sIx l.length 0 (some (i : Int)) = i := by rw [HT.sIx_nat]; omega
    have h2 : HT.sIx l.length l.length none = l.length := rfl
    simp only [cutZ, h1, h2]
    exact List.take_of_length_le (by simp)
  have e2 : cutZ l none (some (i : Int)) = l.take i := by
    have h1 : HT.sIx l.length 0 none = 0 := rfl
    have h2 : HT.sIx l.length l.length (some (i : Int)) = i := by rw [HT.sIx_nat]; omega
    simp only [cutZ, h1, h2, List.drop_zero, Nat.sub_zero]
  rw [e1, e2]
  exact List.perm_append_comm.trans (by rw [List.take_append_drop])
theorem fm_some {α β : Type} {f : α → β} : ∀ {l : List α}, l.filterMap (fun x => some (f x)) = l.map f
  | [] => rfl
  | x :: l => by
    rw [List.filterMap_cons, fm_some]
    rfl
theorem rangeD_fm {n : Nat} {f : D → Option D} {k : Nat → D} (hk : ∀ i < n, f (.int (i : Int)) = some (k i)) : (rangeD 0 n).filterMap f = (List.range n).map k := by
  unfold rangeD
  rw [List.filterMap_map]
  rw [PySem.W.fm_congr (g := fun i => some (k i)) _ fun i hi => by simpa using hk i (List.mem_range.mp hi)]
  exact fm_some
def rots (l : List Int) : List (List Int) := (List.range l.length).map fun (i : Nat) => cutZ l (some (i : Int)) none ++ cutZ l none (some (i : Int))
theorem rots_len {l : List Int} : (rots l).length = l.length := by simp [rots]
theorem rots_perm {l k : List Int} (hk : k ∈ rots l) : k.Perm l := by
  obtain ⟨i, hi, rfl⟩ := List.mem_map.mp hk
  exact rot_perm (List.mem_range.mp hi)
def tupP (l : List Int) : PyData := .tuple (l.map .int)
theorem enc_rows {h : Hh} {rs : List (List Int)} : (rs.map row).map (encD h) = rs.map tupP := by
  rw [List.map_map]
  exact List.map_congr_left fun l _ => enc_row
/-- the least turn of a row -/
def lt1 (l : List Int) : List Int := (rots l).getD (PySem.W.zLeast ((rots l).map tupP)) []
theorem zLeast_lt {ps : List PyData} (h : 0 < ps.length) : PySem.W.zLeast ps < ps.length := by
  unfold PySem.W.zLeast
  refine Nat.lt_of_le_of_lt (argBest_le _ _) ?_
  omega
theorem lt1_perm (l : List Int) : (lt1 l).Perm l := by
  unfold lt1
  by_cases h0 : l = []
  · subst h0
    exact List.Perm.refl _
  · have hl : 0 < (rots l).length := by
      rw [rots_len]
      exact List.length_pos_iff.mpr h0
    have hz := zLeast_lt (ps := (rots l).map tupP) (by simpa using hl)
    rw [List.length_map] at hz
    rw [List.getD_eq_getElem?_getD, List.getElem?_eq_getElem hz]
    exact rots_perm (List.getElem_mem hz)
theorem t_least (n : Nat) (l : List Int) (h : Hh) (hl : l.length ≤ 1000) : (S (n+1)).fn 10 [row l] h = some (row (lt1 l), h) := by
  have hs : small62 (l.length : Int) = true := by
    unfold small62
    exact decide_eq_true (by omega)
  have e1 := ev_lc (G := cfg.G) (cs := S n) (it := .rng1 (.app .len (.cons (.var 0) .nil))) (t := .nm 1) (ifs := .yes) (e := .bin .add (.sl (.var 0) (.var 1) (.con .non)) (.sl (.var 0) (.con .non) (.var 1))) (own := [1]) (s := [some (row l), none]) (h := h) (h1 := h) (xs := rangeD 0 l.length) (g := [])
    (f := fun x => match x with
      | .int i => some (row (cutZ l (some i) none ++ cutZ l none (some i)))
      | _ => none) (by simp [Z.run, exs, ex.eq_1, ex.eq_2, ex.eq_3, ex.eq_4, ex.eq_5, ex.eq_6, ex.eq_7, ex.eq_8, ex.eq_9, ex.eq_10, ev.eq_1, ev.eq_2, ev.eq_3, ev.eq_4, ev.eq_5, ev.eq_6, ev.eq_7, ev.eq_8, ev.eq_9, ev.eq_10, ev.eq_11, ev.eq_12, ev.eq_13, ev.eq_14, ev.eq_15, ev.eq_16, ev.eq_17, ev.eq_18, ev.eq_19, ev.eq_22, ev.eq_23, evs, evT, evI, st, sts, prim1, prim2, primN, startD, truth_bl, truth_int, truth_non, ixD, seqOf, itSeq, tyD, newL, line, keyOf, kget, gOk, wipeD, allBls, allInts, atI, ixN, gc_pre, gc_same, gcb1, gcb2, gci1, gci2, gcn1, gcn2, gcs1, gcs2, below_bl, below_int, below_non, below_str, below_tup, below_gd, belows, eqP_int, get_last, set_last, enumD, zs_len, hs]) (fun x hx acc => by
      obtain ⟨i, hi, rfl⟩ := List.mem_map.mp hx
      have hc : (cutZ l (some (i : Int)) none).length + (cutZ l none (some (i : Int))).length ≤ 1000000 := by
        have h1 := @cut_len l (some (i : Int)) none
        have h2 := @cut_len l none (some (i : Int))
        omega
      refine ⟨[some (row l), some (.int (0 + (i : Int)))], by simp [Z.run, exs, ex.eq_1, ex.eq_2, ex.eq_3, ex.eq_4, ex.eq_5, ex.eq_6, ex.eq_7, ex.eq_8, ex.eq_9, ex.eq_10, ev.eq_1, ev.eq_2, ev.eq_3, ev.eq_4, ev.eq_5, ev.eq_6, ev.eq_7, ev.eq_8, ev.eq_9, ev.eq_10, ev.eq_11, ev.eq_12, ev.eq_13, ev.eq_14, ev.eq_15, ev.eq_16, ev.eq_17, ev.eq_18, ev.eq_19, ev.eq_22, ev.eq_23, evs, evT, evI, st, sts, prim1, prim2, primN, startD, truth_bl, truth_int, truth_non, ixD, seqOf, itSeq, tyD, newL, line, keyOf, kget, gOk, wipeD, allBls, allInts, atI, ixN, gc_pre, gc_same, gcb1, gcb2, gci1, gci2, gcn1, gcn2, gcs1, gcs2, below_bl, below_int, below_non, below_str, below_tup, below_gd, belows, eqP_int, get_last, set_last, enumD], .inl ⟨row (cutZ l (some (i : Int)) none ++ cutZ l none (some (i : Int))), by simp [Z.run, exs, ex.eq_1, ex.eq_2, ex.eq_3, ex.eq_4, ex.eq_5, ex.eq_6, ex.eq_7, ex.eq_8, ex.eq_9, ex.eq_10, ev.eq_1, ev.eq_2, ev.eq_3, ev.eq_4, ev.eq_5, ev.eq_6, ev.eq_7, ev.eq_8, ev.eq_9, ev.eq_10, ev.eq_11, ev.eq_12, ev.eq_13, ev.eq_14, ev.eq_15, ev.eq_16, ev.eq_17, ev.eq_18, ev.eq_19, ev.eq_22, ev.eq_23, evs, evT, evI, st, sts, prim1, prim2, primN, startD, truth_bl, truth_int, truth_non, ixD, seqOf, itSeq, tyD, newL, line, keyOf, kget, gOk, wipeD, allBls, allInts, atI, ixN, gc_pre, gc_same, gcb1, gcb2, gci1, gci2, gcn1, gcn2, gcs1, gcs2, below_bl, below_int, below_non, below_str, below_tup, below_gd, belows, eqP_int, get_last, set_last, enumD], ?_, by simp⟩⟩
      simp [Z.run, exs, ex.eq_1, ex.eq_2, ex.eq_3, ex.eq_4, ex.eq_5, ex.eq_6, ex.eq_7, ex.eq_8, ex.eq_9, ex.eq_10, ev.eq_1, ev.eq_2, ev.eq_3, ev.eq_4, ev.eq_5, ev.eq_6, ev.eq_7, ev.eq_8, ev.eq_9, ev.eq_10, ev.eq_11, ev.eq_12, ev.eq_13, ev.eq_14, ev.eq_15, ev.eq_16, ev.eq_17, ev.eq_18, ev.eq_19, ev.eq_22, ev.eq_23, evs, evT, evI, st, sts, prim1, prim2, primN, startD, truth_bl, truth_int, truth_non, ixD, seqOf, itSeq, tyD, newL, line, keyOf, kget, gOk, wipeD, allBls, allInts, atI, ixN, gc_pre, gc_same, gcb1, gcb2, gci1, gci2, gcn1, gcn2, gcs1, gcs2, below_bl, below_int, below_non, below_str, below_tup, below_gd, belows, eqP_int, get_last, set_last, enumD, slD, partOf, cut_zs, zs_len, ← zs_app, hc]) rfl (by simp [rangeD_len, Z.line]; omega)
  rw [rangeD_fm (k := fun (i : Nat) => row (cutZ l (some (i : Int)) none ++ cutZ l none (some (i : Int)))) fun i _ => rfl] at e1
  have hrs' : (List.range l.length).map (fun (i : Nat) => row (cutZ l (some (i : Int)) none ++ cutZ l none (some (i : Int)))) = (rots l).map row := by
    unfold rots
    rw [List.map_map]
    rfl
  rw [hrs'] at e1
  have hd := data_rows (h := h ++ [.lst ((rots l).map row)]) (rots l)
  have hso := sort_rows (h := h ++ [.lst ((rots l).map row)]) (rots l)
  have he := enc_rows (h := h ++ [.lst ((rots l).map row)]) (rs := rots l)
  have hw0 : (rots l).map row = [] → row (lt1 l) = .tup [] := by
    intro h0
    unfold lt1
    rw [List.map_eq_nil_iff.mp h0]
    rfl
  have hw1 : (rots l).map row ≠ [] → ((rots l).map row)[PySem.W.zLeast (((rots l).map row).map (encD (h ++ [.lst ((rots l).map row)])))]? = some (row (lt1 l)) := by
    intro h0
    rw [he]
    unfold lt1
    have hz := zLeast_lt (ps := (rots l).map tupP) (by
      rw [List.length_map]
      refine List.length_pos_iff.mpr fun h1 => h0 ?_
      rw [h1]
      rfl)
    rw [List.length_map] at hz
    generalize PySem.W.zLeast ((rots l).map tupP) = j at *
    rw [List.getElem?_map, List.getD_eq_getElem?_getD, List.getElem?_eq_getElem hz]
    rfl
  rw [fn10]
  generalize (rots l).map row = xs at *
  refine run_rt rfl (exs_rt (v := row (lt1 l)) (h2 := h ++ [.lst xs]) ?_) (gc_pre below_zs)
  have e2 : ev cfg.G (S n) (.app .minD (.cons (.lc (.rng1 (.app .len (.cons (.var 0) .nil))) (.nm 1) .yes (.bin .add (.sl (.var 0) (.var 1) (.con .non)) (.sl (.var 0) (.con .non) (.var 1))) [1]) (.cons (.tup .nil) .nil))) [some (row l), none] h = some (row (lt1 l), h ++ [.lst xs]) := by
    cases xs with
    | nil =>
      have hd' : dataB (h ++ [.lst []]) [] = true := hd
      rw [hw0 rfl]
      simp [Z.run, exs, ex.eq_1, ex.eq_2, ex.eq_3, ex.eq_4, ex.eq_5, ex.eq_6, ex.eq_7, ex.eq_8, ex.eq_9, ex.eq_10, ev.eq_1, ev.eq_2, ev.eq_3, ev.eq_4, ev.eq_5, ev.eq_6, ev.eq_7, ev.eq_8, ev.eq_9, ev.eq_10, ev.eq_11, ev.eq_12, ev.eq_13, ev.eq_14, ev.eq_15, ev.eq_16, ev.eq_17, ev.eq_18, ev.eq_19, ev.eq_22, ev.eq_23, evs, evT, evI, st, sts, prim1, prim2, primN, startD, truth_bl, truth_int, truth_non, ixD, seqOf, itSeq, tyD, newL, line, keyOf, kget, gOk, wipeD, allBls, allInts, atI, ixN, gc_pre, gc_same, gcb1, gcb2, gci1, gci2, gcn1, gcn2, gcs1, gcs2, below_bl, below_int, below_non, below_str, below_tup, below_gd, belows, eqP_int, get_last, set_last, enumD, e1, hd']
    | cons x xs =>
      have hw := hw1 (by simp)
      rw [List.map_cons] at hw
      simp [Z.run, exs, ex.eq_1, ex.eq_2, ex.eq_3, ex.eq_4, ex.eq_5, ex.eq_6, ex.eq_7, ex.eq_8, ex.eq_9, ex.eq_10, ev.eq_1, ev.eq_2, ev.eq_3, ev.eq_4, ev.eq_5, ev.eq_6, ev.eq_7, ev.eq_8, ev.eq_9, ev.eq_10, ev.eq_11, ev.eq_12, ev.eq_13, ev.eq_14, ev.eq_15, ev.eq_16, ev.eq_17, ev.eq_18, ev.eq_19, ev.eq_22, ev.eq_23, evs, evT, evI, st, sts, prim1, prim2, primN, startD, truth_bl, truth_int, truth_non, ixD, seqOf, itSeq, tyD, newL, line, keyOf, kget, gOk, wipeD, allBls, allInts, atI, ixN, gc_pre, gc_same, gcb1, gcb2, gci1, gci2, gcn1, gcn2, gcs1, gcs2, below_bl, below_int, below_non, below_str, below_tup, below_gd, belows, eqP_int, get_last, set_last, enumD, e1, hd, hw]
  simp [Z.run, exs, ex.eq_1, ex.eq_2, ex.eq_3, ex.eq_4, ex.eq_5, ex.eq_6, ex.eq_7, ex.eq_8, ex.eq_9, ex.eq_10, ev.eq_1, ev.eq_2, ev.eq_3, ev.eq_4, ev.eq_5, ev.eq_6, ev.eq_7, ev.eq_8, ev.eq_9, ev.eq_10, ev.eq_11, ev.eq_12, ev.eq_13, ev.eq_14, ev.eq_15, ev.eq_16, ev.eq_17, ev.eq_18, ev.eq_19, ev.eq_22, ev.eq_23, evs, evT, evI, st, sts, prim1, prim2, primN, startD, truth_bl, truth_int, truth_non, ixD, seqOf, itSeq, tyD, newL, line, keyOf, kget, gOk, wipeD, allBls, allInts, atI, ixN, gc_pre, gc_same, gcb1, gcb2, gci1, gci2, gcn1, gcn2, gcs1, gcs2, below_bl, below_int, below_non, below_str, below_tup, below_gd, belows, eqP_int, get_last, set_last, enumD, d10, DefT.fn, e2]
end K14
end

-- M4
section
set_option Elab.async false
set_option linter.all false
set_option maxRecDepth 100000
set_option maxHeartbeats 1000000
namespace K14
open PySem L2 Z
theorem belows_rows : ∀ {n : Nat} {rs : List (List Int)}, belows n (rs.map row) = true
  | n, [] => rfl
  | n, r :: rs => by
    show (below n (row r) && belows n (rs.map row)) = true
    rw [belows_rows, show below n (row r) = true from below_zs]
    rfl
theorem gc_new {h : Hh} {o : O} (b : belowO h.length o = true) : gc h (.ref h.length, h ++ [o]) = (.ref h.length, h ++ [o]) := by
  unfold gc
  simp [stable_app, b, below]
theorem rev_zs {l : List Int} : (zs l).reverse = zs l.reverse := by simp [zs]
theorem rows_fm {rs : List (List Int)} {f : D → Option D} {k : List Int → D} (hk : ∀ r ∈ rs, f (row r) = some (k r)) : (rs.map row).filterMap f = rs.map k := by
  rw [List.filterMap_map]
  rw [PySem.W.fm_congr (g := fun r => some (k r)) _ fun r hr => by simpa using hk r hr]
  exact fm_some
theorem rows_mem {rs : List (List Int)} {x : D} (h : x ∈ rs.map row) : ∃ r ∈ rs, x = row r := by
  obtain ⟨r, h1, h2⟩ := List.mem_map.mp h
  exact ⟨r, h1, h2.symm⟩
theorem evI_seq {G : GEnv} {cs : CS} {k : Nat} {s : Sl} {h : Hh} {v : D} {xs : List D} {g : Gd} (hk : s[k]? = some (some v)) (i : itSeq h v = some (xs, g)) : evI G cs (.seq (.var k)) s h = some (xs, g, h) := by
  simp only [evI, ev, hk, i]
/-- the list of whole numbers in a row of whole numbers, and back -/
def unz : D → List Int
  | .tup xs => xs.filterMap fun
    | .int i => some i
    | _ => none
  | _ => []
theorem unz_row {l : List Int} : unz (row l) = l := by
  simp only [unz, zs, List.filterMap_map]
  rw [show ((fun x => match x with
    | D.int i => some i
    | _ => none) ∘ D.int) = fun (i : Int) => some i from rfl]
  simp
theorem t_turned (n : Nat) (v : D) (rs : List (List Int)) (h : Hh) (q : SeqV h v (rs.map row)) (hl : rs.length ≤ 1000) : (S (n+1)).fn 11 [v] h = some (.ref h.length, h ++ [.lst ((rs.map List.reverse).map row)]) := by
  obtain ⟨g, i1, i2⟩ := q.it
  have e1 := ev_lc (G := cfg.G) (cs := S n) (it := .seq (.var 0)) (t := .nm 1) (ifs := .yes) (e := .un .rev (.var 1)) (own := [1]) (s := [some v, none]) (h := h) (h1 := h) (xs := rs.map row) (g := g)
    (f := fun x => some (row (unz x).reverse)) (evI_seq rfl i1) (fun x hx acc => by
      obtain ⟨r, hr, rfl⟩ := rows_mem hx
      refine ⟨[some v, some (row r)], by simp [Z.run, exs, ex.eq_1, ex.eq_2, ex.eq_3, ex.eq_4, ex.eq_5, ex.eq_6, ex.eq_7, ex.eq_8, ex.eq_9, ex.eq_10, ev.eq_1, ev.eq_2, ev.eq_3, ev.eq_4, ev.eq_5, ev.eq_6, ev.eq_7, ev.eq_8, ev.eq_9, ev.eq_10, ev.eq_11, ev.eq_12, ev.eq_13, ev.eq_14, ev.eq_15, ev.eq_16, ev.eq_17, ev.eq_18, ev.eq_19, ev.eq_22, ev.eq_23, evs, evT, evI, st, sts, prim1, prim2, primN, startD, truth_bl, truth_int, truth_non, ixD, seqOf, itSeq, tyD, newL, line, keyOf, kget, gOk, wipeD, allBls, allInts, atI, ixN, gc_pre, gc_same, gcb1, gcb2, gci1, gci2, gcn1, gcn2, gcs1, gcs2, below_bl, below_int, below_non, below_str, below_tup, below_gd, belows, eqP_int, get_last, set_last, enumD], .inl ⟨row r.reverse, by simp [Z.run, exs, ex.eq_1, ex.eq_2, ex.eq_3, ex.eq_4, ex.eq_5, ex.eq_6, ex.eq_7, ex.eq_8, ex.eq_9, ex.eq_10, ev.eq_1, ev.eq_2, ev.eq_3, ev.eq_4, ev.eq_5, ev.eq_6, ev.eq_7, ev.eq_8, ev.eq_9, ev.eq_10, ev.eq_11, ev.eq_12, ev.eq_13, ev.eq_14, ev.eq_15, ev.eq_16, ev.eq_17, ev.eq_18, ev.eq_19, ev.eq_22, ev.eq_23, evs, evT, evI, st, sts, prim1, prim2, primN, startD, truth_bl, truth_int, truth_non, ixD, seqOf, itSeq, tyD, newL, line, keyOf, kget, gOk, wipeD, allBls, allInts, atI, ixN, gc_pre, gc_same, gcb1, gcb2, gci1, gci2, gcn1, gcn2, gcs1, gcs2, below_bl, below_int, below_non, below_str, below_tup, below_gd, belows, eqP_int, get_last, set_last, enumD], ?_, by rw [unz_row]⟩⟩
      simp [Z.run, exs, ex.eq_1, ex.eq_2, ex.eq_3, ex.eq_4, ex.eq_5, ex.eq_6, ex.eq_7, ex.eq_8, ex.eq_9, ex.eq_10, ev.eq_1, ev.eq_2, ev.eq_3, ev.eq_4, ev.eq_5, ev.eq_6, ev.eq_7, ev.eq_8, ev.eq_9, ev.eq_10, ev.eq_11, ev.eq_12, ev.eq_13, ev.eq_14, ev.eq_15, ev.eq_16, ev.eq_17, ev.eq_18, ev.eq_19, ev.eq_22, ev.eq_23, evs, evT, evI, st, sts, prim1, prim2, primN, startD, truth_bl, truth_int, truth_non, ixD, seqOf, itSeq, tyD, newL, line, keyOf, kget, gOk, wipeD, allBls, allInts, atI, ixN, gc_pre, gc_same, gcb1, gcb2, gci1, gci2, gcn1, gcn2, gcs1, gcs2, below_bl, below_int, below_non, below_str, below_tup, below_gd, belows, eqP_int, get_last, set_last, enumD, rev_zs]) i2 (by simp [Z.line]; omega)
  rw [rows_fm (k := fun r => row r.reverse) fun r _ => by rw [unz_row]] at e1
  rw [fn11]
  refine run_rt rfl (exs_rt (v := .ref h.length) (h2 := h ++ [.lst ((rs.map List.reverse).map row)]) ?_) (gc_new (o := .lst _) belows_rows)
  have e2 : ev cfg.G (S n) (.lc (.seq (.var 0)) (.nm 1) .yes (.un .rev (.var 1)) [1]) [some v, none] h = some (.ref h.length, h ++ [.lst ((rs.map List.reverse).map row)]) := by
    rw [e1, List.map_map]
    rfl
  simp [Z.run, exs, ex.eq_1, ex.eq_2, ex.eq_3, ex.eq_4, ex.eq_5, ex.eq_6, ex.eq_7, ex.eq_8, ex.eq_9, ex.eq_10, ev.eq_1, ev.eq_2, ev.eq_3, ev.eq_4, ev.eq_5, ev.eq_6, ev.eq_7, ev.eq_8, ev.eq_9, ev.eq_10, ev.eq_11, ev.eq_12, ev.eq_13, ev.eq_14, ev.eq_15, ev.eq_16, ev.eq_17, ev.eq_18, ev.eq_19, ev.eq_22, ev.eq_23, evs, evT, evI, st, sts, prim1, prim2, primN, startD, truth_bl, truth_int, truth_non, ixD, seqOf, itSeq, tyD, newL, line, keyOf, kget, gOk, wipeD, allBls, allInts, atI, ixN, gc_pre, gc_same, gcb1, gcb2, gci1, gci2, gcn1, gcn2, gcs1, gcs2, below_bl, below_int, below_non, below_str, below_tup, below_gd, belows, eqP_int, get_last, set_last, enumD, d11, DefT.fn, e2]
end K14
end

-- M5
section
set_option Elab.async false
set_option linter.all false
set_option maxRecDepth 100000
set_option maxHeartbeats 1000000
namespace K14
open PySem L2 Z
theorem rows_perm {L : List D} {rs : List (List Int)} (p : L.Perm (rs.map row)) : ∃ ms : List (List Int), ms.Perm rs ∧ L = ms.map row := by
  refine ⟨L.map unz, ?_, ?_⟩
  · have q := p.map unz
    rw [List.map_map] at q
    have e : rs.map (unz ∘ row) = rs := by
      have e2 : unz ∘ row = id := funext fun r => unz_row
      rw [e2, List.map_id]
    rw [e] at q
    exact q
  · rw [List.map_map]
    have e : L.map (row ∘ unz) = L.map id := List.map_congr_left fun x hx => by
      obtain ⟨r, _, rfl⟩ := rows_mem (p.mem_iff.mp hx)
      show row (unz (row r)) = row r
      rw [unz_row]
    rw [e, List.map_id]
theorem sort_ex (h : Hh) (rs : List (List Int)) : ∃ ms : List (List Int), ms.Perm rs ∧ sortD h (rs.map row) = ms.map row := rows_perm (List.mergeSort_perm _ _)
theorem alike_rows : ∀ (as bs : List (List Int)), PySem.W.alikeAll (as.map tupP) (bs.map tupP) = true
  | [], _ => by simp [PySem.W.alikeAll]
  | _ :: _, [] => by simp [PySem.W.alikeAll]
  | a :: as, b :: bs => by
    have := alike_rows as bs
    simp [PySem.W.alikeAll, PySem.W.alike, PySem.W.alike_ints, tupP, this]
theorem data2_row {h : Hh} {a b : List Int} : dataB h [row a, row b] = true := data_rows [a, b]
theorem toPWs_rows {r : Nat → Option PyData} : ∀ (rs : List (List Int)), toPWs r (rs.map row) = some (rs.map tupP)
  | [] => rfl
  | l :: rs => by
    simp [toPWs, toPW, toPWs_zs, toPWs_rows rs, tupP]
theorem toP_ref {h : Hh} {n : Nat} {rs : List (List Int)} (e : h[n]? = some (.lst (rs.map row))) : toP h (.ref n) = some (.list (rs.map tupP)) := by
  simp [toP, toPW, refP, e, toPWs_rows]
theorem depth_rowsP : ∀ (rs : List (List Int)), PyData.depthAll (rs.map tupP) ≤ 1
  | [] => by simp [PyData.depthAll]
  | l :: rs => by
    have := depth_rowsP rs
    simp only [List.map_cons, PyData.depthAll]
    have e : (tupP l).depth = 1 := by simp [tupP, PyData.depth, PySem.W.depth_ints]
    rw [e]
    exact Nat.max_le.mpr ⟨Nat.le_refl _, this⟩
theorem data2_ref {h : Hh} {n m : Nat} {as bs : List (List Int)} (e1 : h[n]? = some (.lst (as.map row))) (e2 : h[m]? = some (.lst (bs.map row))) : dataB h [.ref n, .ref m] = true := by
  have d1 := depth_rowsP as
  have d2 := depth_rowsP bs
  simp only [dataB, encD, toP_ref e1, toP_ref e2, List.all_cons, List.all_nil, List.map_cons, List.map_nil, Option.isSome_some, Option.getD_some, PySem.W.alike, alike_rows, nonP, PyData.depthAll, PyData.depth]
  simp
  omega
/-- row for row the same orders, in some turn -/
inductive PW : List (List Int) → List (List Int) → Prop
  | nil : PW [] []
  | cons {a b : List Int} {as bs : List (List Int)} : a.Perm b → PW as bs → PW (a :: as) (b :: bs)
theorem PW.map {f : List Int → List Int} (hf : ∀ l, (f l).Perm l) : ∀ (rs : List (List Int)), PW (rs.map f) rs
  | [] => .nil
  | r :: rs => .cons (hf r) (PW.map hf rs)
/-- the rings of one full are those of another, in some turn, each in some turn -/
def Same (ms rs : List (List Int)) : Prop := ∃ ks : List (List Int), ms.Perm ks ∧ PW ks rs
theorem min2_rows {G : GEnv} {h : Hh} {a b : List Int} : ∃ c : List Int, (c = a ∨ c = b) ∧ prim2 G .min2 (row a) (row b) h = some (row c, h) := by
  by_cases c : PySem.W.dataLt (encD h (row b)) (encD h (row a)) = true
  · exact ⟨b, .inr rfl, by simp [prim2, data2_row, c]⟩
  · exact ⟨a, .inl rfl, by simp [prim2, data2_row, c]⟩
theorem min2_ref {G : GEnv} {h : Hh} {n m : Nat} {as bs : List (List Int)} (e1 : h[n]? = some (.lst (as.map row))) (e2 : h[m]? = some (.lst (bs.map row))) : ∃ k cs, (k = n ∧ cs = as ∨ k = m ∧ cs = bs) ∧ h[k]? = some (.lst (cs.map row)) ∧ prim2 G .min2 (.ref n) (.ref m) h = some (.ref k, h) := by
  by_cases c : PySem.W.dataLt (encD h (.ref m)) (encD h (.ref n)) = true
  · exact ⟨m, bs, .inr ⟨rfl, rfl⟩, e2, by simp [prim2, data2_ref e1 e2, c]⟩
  · exact ⟨n, as, .inl ⟨rfl, rfl⟩, e1, by simp [prim2, data2_ref e1 e2, c]⟩
def m2r (a b : List Int) : List Int := if PySem.W.dataLt (tupP b) (tupP a) = true then b else a
theorem min2_m2r {G : GEnv} {h : Hh} {a b : List Int} : prim2 G .min2 (row a) (row b) h = some (row (m2r a b), h) := by
  have ea : encD h (row a) = tupP a := enc_row
  have eb : encD h (row b) = tupP b := enc_row
  unfold m2r
  simp only [prim2, data2_row, ea, eb, if_true]
  split <;> rfl
/-- sorted rows, of a list just made -/
theorem sorted_new {h : Hh} {rs : List (List Int)} (hl : rs.length ≤ 1000) : ∃ ms : List (List Int), ms.Perm rs ∧ prim1 .sorted (.ref h.length) (h ++ [.lst (rs.map row)]) = some (.ref (h.length + 1), h ++ [.lst (rs.map row), .lst (ms.map row)]) := by
  obtain ⟨ms, p, e⟩ := sort_ex (h ++ [.lst (rs.map row)]) rs
  refine ⟨ms, p, ?_⟩
  have hl2 : rs.length ≤ Z.line := by
    unfold Z.line
    omega
  simp [prim1, seqOf, get_last, data_rows, sort_rows, hl2, e, newL]
end K14
end

-- M6
section
set_option Elab.async false
set_option linter.all false
set_option maxRecDepth 100000
set_option maxHeartbeats 1000000
namespace K14
open PySem L2 Z
theorem ev_sorted {G : GEnv} {cs : CS} {e : Ex} {s : Sl} {h h1 : Hh} {rs : List (List Int)} (he : ev G cs e s h = some (.ref h1.length, h1 ++ [.lst (rs.map row)])) (hl : rs.length ≤ 1000) : ∃ ms : List (List Int), ms.Perm rs ∧ ev G cs (.app .sorted (.cons e .nil)) s h = some (.ref (h1.length + 1), h1 ++ [.lst (rs.map row), .lst (ms.map row)]) := by
  obtain ⟨ms, p, e2⟩ := sorted_new (h := h1) hl
  refine ⟨ms, p, ?_⟩
  simp only [ev, evs, he, primN, e2]
theorem ev_least {it : Z.It} {n : Nat} {a b c d : Option D} {h h1 : Hh} {rs : List (List Int)} {g : Gd} (hi : evI cfg.G (S (n+1)) it [a, b, c, d] h = some (rs.map row, g, h1)) (hg : gOk g h1 = true) (hl : rs.length ≤ 1000) (hr : ∀ r ∈ rs, r.length ≤ 1000) :
    ∃ ms : List (List Int), ms.Perm (rs.map lt1) ∧ ev cfg.G (S (n+1)) (.app .sorted (.cons (.lc it (.nm 3) .yes (.call 10 (.cons (.var 3) .nil)) [3]) .nil)) [a, b, c, d] h = some (.ref (h1.length + 1), h1 ++ [.lst ((rs.map lt1).map row), .lst (ms.map row)]) := by
  have e1 := ev_lc (G := cfg.G) (cs := S (n+1)) (it := it) (t := .nm 3) (ifs := .yes) (e := .call 10 (.cons (.var 3) .nil)) (own := [3]) (s := [a, b, c, d]) (h := h) (h1 := h1) (xs := rs.map row) (g := g)
    (f := fun x => some (row (lt1 (unz x)))) hi (fun x hx acc => by
      obtain ⟨r, hr', rfl⟩ := rows_mem hx
      have e2 := t_least n r (h1 ++ [.lst acc]) (hr r hr')
      refine ⟨[a, b, c, some (row r)], by simp [Z.run, exs, ex.eq_1, ex.eq_2, ex.eq_3, ex.eq_4, ex.eq_5, ex.eq_6, ex.eq_7, ex.eq_8, ex.eq_9, ex.eq_10, ev.eq_1, ev.eq_2, ev.eq_3, ev.eq_4, ev.eq_5, ev.eq_6, ev.eq_7, ev.eq_8, ev.eq_9, ev.eq_10, ev.eq_11, ev.eq_12, ev.eq_13, ev.eq_14, ev.eq_15, ev.eq_16, ev.eq_17, ev.eq_18, ev.eq_19, ev.eq_22, ev.eq_23, evs, evT, evI, st, sts, prim1, prim2, primN, startD, truth_bl, truth_int, truth_non, ixD, seqOf, itSeq, tyD, newL, line, keyOf, kget, gOk, wipeD, allBls, allInts, atI, ixN, gc_pre, gc_same, gcb1, gcb2, gci1, gci2, gcn1, gcn2, gcs1, gcs2, below_bl, below_int, below_non, below_str, below_tup, below_gd, belows, eqP_int, get_last, set_last, enumD], .inl ⟨row (lt1 r), by simp [Z.run, exs, ex.eq_1, ex.eq_2, ex.eq_3, ex.eq_4, ex.eq_5, ex.eq_6, ex.eq_7, ex.eq_8, ex.eq_9, ex.eq_10, ev.eq_1, ev.eq_2, ev.eq_3, ev.eq_4, ev.eq_5, ev.eq_6, ev.eq_7, ev.eq_8, ev.eq_9, ev.eq_10, ev.eq_11, ev.eq_12, ev.eq_13, ev.eq_14, ev.eq_15, ev.eq_16, ev.eq_17, ev.eq_18, ev.eq_19, ev.eq_22, ev.eq_23, evs, evT, evI, st, sts, prim1, prim2, primN, startD, truth_bl, truth_int, truth_non, ixD, seqOf, itSeq, tyD, newL, line, keyOf, kget, gOk, wipeD, allBls, allInts, atI, ixN, gc_pre, gc_same, gcb1, gcb2, gci1, gci2, gcn1, gcn2, gcs1, gcs2, below_bl, below_int, below_non, below_str, below_tup, below_gd, belows, eqP_int, get_last, set_last, enumD], ?_, by rw [unz_row]⟩⟩
      simp [Z.run, exs, ex.eq_1, ex.eq_2, ex.eq_3, ex.eq_4, ex.eq_5, ex.eq_6, ex.eq_7, ex.eq_8, ex.eq_9, ex.eq_10, ev.eq_1, ev.eq_2, ev.eq_3, ev.eq_4, ev.eq_5, ev.eq_6, ev.eq_7, ev.eq_8, ev.eq_9, ev.eq_10, ev.eq_11, ev.eq_12, ev.eq_13, ev.eq_14, ev.eq_15, ev.eq_16, ev.eq_17, ev.eq_18, ev.eq_19, ev.eq_22, ev.eq_23, evs, evT, evI, st, sts, prim1, prim2, primN, startD, truth_bl, truth_int, truth_non, ixD, seqOf, itSeq, tyD, newL, line, keyOf, kget, gOk, wipeD, allBls, allInts, atI, ixN, gc_pre, gc_same, gcb1, gcb2, gci1, gci2, gcn1, gcn2, gcs1, gcs2, below_bl, below_int, below_non, below_str, below_tup, below_gd, belows, eqP_int, get_last, set_last, enumD, e2]) hg (by simp [Z.line]; omega)
  rw [rows_fm (k := fun r => row (lt1 r)) fun r _ => by rw [unz_row]] at e1
  refine ev_sorted (h1 := h1) (rs := rs.map lt1) ?_ (by simpa using hl)
  rw [e1, List.map_map]
  rfl
theorem get_snd {h : Hh} {a b : O} : (h ++ [a, b])[h.length + 1]? = some b := by simp
theorem ev_m2 {G : GEnv} {cs : CS} {X Y : Ex} {s : Sl} {h h1 h2 : Hh} {d1 d2 : D} {r : Option (D × Hh)} (hX : ev G cs X s h = some (d1, h1)) (hY : ev G cs Y s h1 = some (d2, h2)) (e : prim2 G .min2 d1 d2 h2 = r) : ev G cs (.app .min2 (.cons X (.cons Y .nil))) s h = r := by
  simp only [ev, evs, hX, hY, primN, e]
theorem ev_tuple {G : GEnv} {cs : CS} {X : Ex} {s : Sl} {h h1 : Hh} {d1 : D} {r : Option (D × Hh)} (hX : ev G cs X s h = some (d1, h1)) (e : prim1 .tuple d1 h1 = r) : ev G cs (.app .tuple (.cons X .nil)) s h = r := by
  simp only [ev, evs, hX, primN, e]
theorem ex_ret {G : GEnv} {cs : CS} {X : Ex} {s : Sl} {h h1 : Hh} {d : D} (hX : ev G cs X s h = some (d, h1)) : ex G cs (.ret X) s h = some (.rt d h1) := by
  simp only [ex, hX]
theorem ex_ite {G : GEnv} {cs : CS} {t : Ts} {a b : Stms} {s : Sl} {h h1 : Hh} {c : Bool} {r : Option Out} (ht : evT G cs t s h = some (c, h1)) (k : exs G cs (if c = true then a else b) s h1 = r) : ex G cs (.ite t a b) s h = r := by
  cases c with
  | true =>
    simp only [ex, ht]
    exact k
  | false =>
    simp only [ex, ht]
    exact k
theorem ev_var {G : GEnv} {cs : CS} {k : Nat} {s : Sl} {h : Hh} {v : D} (hk : s[k]? = some (some v)) : ev G cs (.var k) s h = some (v, h) := by
  simp only [ev, hk]
theorem t_inorder (n : Nat) (v : D) (b : Bool) (rs : List (List Int)) (h : Hh) (q : SeqV h v (rs.map row)) (hl : rs.length ≤ 1000) (hr : ∀ r ∈ rs, r.length ≤ 1000) : ∃ ms, Same ms rs ∧ (S (n+2)).fn 12 [v, .bl b] h = some (.tup (ms.map row), h) := by
  obtain ⟨g, i1, i2⟩ := q.it
  obtain ⟨m1, p1, e1⟩ := ev_least (n := n) (it := .seq (.var 0)) (a := some v) (b := some (.bl b)) (c := none) (d := none) (h := h) (evI_seq rfl i1) i2 hl hr
  obtain ⟨h2, hh2⟩ : ∃ h2, h2 = h ++ [.lst ((rs.map lt1).map row), .lst (m1.map row)] := ⟨_, rfl⟩
  rw [← hh2] at e1
  have q2 : SeqV h2 v (rs.map row) := by
    rw [hh2]
    exact q.app
  have a1 : h2[h.length + 1]? = some (.lst (m1.map row)) := by
    rw [hh2]
    simp
  have x1 : ex cfg.G (S (n+1)) (.asg (.nm 2) (.app .sorted (.cons (.lc (.seq (.var 0)) (.nm 3) .yes (.call 10 (.cons (.var 3) .nil)) [3]) .nil))) [some v, some (.bl b), none, none] h = some (.nx [some v, some (.bl b), some (.ref (h.length + 1)), none] h2) := by
    simp only [ex, e1]
    simp [st]
  cases b with
  | true =>
    have t1 := t_turned n v rs h2 q2 hl
    have hi2 : evI cfg.G (S (n+1)) (.seq (.call 11 (.cons (.var 0) .nil))) [some v, some (.bl true), some (.ref (h.length + 1)), none] h2 = some ((rs.map List.reverse).map row, [(h2.length, .lst ((rs.map List.reverse).map row))], h2 ++ [.lst ((rs.map List.reverse).map row)]) := by
      simp [Z.run, exs, ex.eq_1, ex.eq_2, ex.eq_3, ex.eq_4, ex.eq_5, ex.eq_6, ex.eq_7, ex.eq_8, ex.eq_9, ex.eq_10, ev.eq_1, ev.eq_2, ev.eq_3, ev.eq_4, ev.eq_5, ev.eq_6, ev.eq_7, ev.eq_8, ev.eq_9, ev.eq_10, ev.eq_11, ev.eq_12, ev.eq_13, ev.eq_14, ev.eq_15, ev.eq_16, ev.eq_17, ev.eq_18, ev.eq_19, ev.eq_22, ev.eq_23, evs, evT, evI, st, sts, prim1, prim2, primN, startD, truth_bl, truth_int, truth_non, ixD, seqOf, itSeq, tyD, newL, line, keyOf, kget, gOk, wipeD, allBls, allInts, atI, ixN, gc_pre, gc_same, gcb1, gcb2, gci1, gci2, gcn1, gcn2, gcs1, gcs2, below_bl, below_int, below_non, below_str, below_tup, below_gd, belows, eqP_int, get_last, set_last, enumD, t1]
    obtain ⟨m2, p2, e2⟩ := ev_least (n := n) hi2 (by simp [gOk]) (by simpa using hl) (fun r hr' => by
      obtain ⟨r2, h3, rfl⟩ := List.mem_map.mp hr'
      simpa using hr r2 h3)
    obtain ⟨h3, hh3⟩ : ∃ h3, h3 = h2 ++ [.lst ((rs.map List.reverse).map row)] ++ [.lst (((rs.map List.reverse).map lt1).map row), .lst (m2.map row)] := ⟨_, rfl⟩
    rw [← hh3] at e2
    have a2 : h3[h.length + 1]? = some (.lst (m1.map row)) := by
      rw [hh3, List.append_assoc]
      exact app_at a1
    have a3 : h3[(h2 ++ [O.lst ((rs.map List.reverse).map row)]).length + 1]? = some (.lst (m2.map row)) := by
      rw [hh3]
      exact get_snd
    obtain ⟨k, ms, hk, a4, e3⟩ := min2_ref (G := cfg.G) a2 a3
    refine ⟨ms, ?_, ?_⟩
    · rcases hk with ⟨_, rfl⟩ | ⟨_, rfl⟩
      · exact ⟨_, p1, PW.map lt1_perm rs⟩
      · refine ⟨_, p2, ?_⟩
        rw [List.map_map]
        exact PW.map (fun l => (lt1_perm _).trans (List.reverse_perm l)) rs
    · have h4 : h3 = h ++ ([O.lst ((rs.map lt1).map row), .lst (m1.map row)] ++ [.lst ((rs.map List.reverse).map row)] ++ [.lst (((rs.map List.reverse).map lt1).map row), .lst (m2.map row)]) := by
        rw [hh3, hh2]
        simp
      have hgc : gc h (.tup (ms.map row), h3) = (.tup (ms.map row), h) := by
        rw [h4]
        exact gc_pre belows_rows
      have e4 : prim1 .tuple (.ref k) h3 = some (.tup (ms.map row), h3) := by
        simp [prim1, seqOf, a4]
      have e5 := ex_ret (ev_tuple (ev_m2 (X := .var 2) (h1 := h2) (d1 := .ref (h.length + 1)) (ev_var rfl) e2 e3) e4)
      rw [fn12]
      simp only [d12, DefT.fn, ir12]
      refine run_rt rfl (exs_nx x1 (exs_rt (v := .tup (ms.map row)) (h2 := h3) (ex_ite (t := .val (.var 1)) (c := true) (h1 := h2) (by simp [Z.run, exs, ex.eq_1, ex.eq_2, ex.eq_3, ex.eq_4, ex.eq_5, ex.eq_6, ex.eq_7, ex.eq_8, ex.eq_9, ex.eq_10, ev.eq_1, ev.eq_2, ev.eq_3, ev.eq_4, ev.eq_5, ev.eq_6, ev.eq_7, ev.eq_8, ev.eq_9, ev.eq_10, ev.eq_11, ev.eq_12, ev.eq_13, ev.eq_14, ev.eq_15, ev.eq_16, ev.eq_17, ev.eq_18, ev.eq_19, ev.eq_22, ev.eq_23, evs, evT, evI, st, sts, prim1, prim2, primN, startD, truth_bl, truth_int, truth_non, ixD, seqOf, itSeq, tyD, newL, line, keyOf, kget, gOk, wipeD, allBls, allInts, atI, ixN, gc_pre, gc_same, gcb1, gcb2, gci1, gci2, gcn1, gcn2, gcs1, gcs2, below_bl, below_int, below_non, below_str, below_tup, below_gd, belows, eqP_int, get_last, set_last, enumD]) (exs_rt e5)))) hgc
  | false =>
    obtain ⟨g2, i3, i4⟩ := q2.it
    have e2 := ev_lc (G := cfg.G) (cs := S (n+1)) (it := .seq (.var 0)) (t := .nm 3) (ifs := .yes) (e := .app .min2 (.cons (.call 10 (.cons (.var 3) .nil)) (.cons (.call 10 (.cons (.un .rev (.var 3)) .nil)) .nil))) (own := [3]) (s := [some v, some (.bl false), some (.ref (h.length + 1)), none]) (h := h2) (h1 := h2) (xs := rs.map row) (g := g2)
      (f := fun x => some (row (m2r (lt1 (unz x)) (lt1 (unz x).reverse)))) (evI_seq rfl i3) (fun x hx acc => by
        obtain ⟨r, hr', rfl⟩ := rows_mem hx
        have e3 := t_least n r (h2 ++ [.lst acc]) (hr r hr')
        have e4 := t_least n r.reverse (h2 ++ [.lst acc]) (by simpa using hr r hr')
        refine ⟨[some v, some (.bl false), some (.ref (h.length + 1)), some (row r)], by simp [Z.run, exs, ex.eq_1, ex.eq_2, ex.eq_3, ex.eq_4, ex.eq_5, ex.eq_6, ex.eq_7, ex.eq_8, ex.eq_9, ex.eq_10, ev.eq_1, ev.eq_2, ev.eq_3, ev.eq_4, ev.eq_5, ev.eq_6, ev.eq_7, ev.eq_8, ev.eq_9, ev.eq_10, ev.eq_11, ev.eq_12, ev.eq_13, ev.eq_14, ev.eq_15, ev.eq_16, ev.eq_17, ev.eq_18, ev.eq_19, ev.eq_22, ev.eq_23, evs, evT, evI, st, sts, prim1, prim2, primN, startD, truth_bl, truth_int, truth_non, ixD, seqOf, itSeq, tyD, newL, line, keyOf, kget, gOk, wipeD, allBls, allInts, atI, ixN, gc_pre, gc_same, gcb1, gcb2, gci1, gci2, gcn1, gcn2, gcs1, gcs2, below_bl, below_int, below_non, below_str, below_tup, below_gd, belows, eqP_int, get_last, set_last, enumD], .inl ⟨row (m2r (lt1 r) (lt1 r.reverse)), by simp [Z.run, exs, ex.eq_1, ex.eq_2, ex.eq_3, ex.eq_4, ex.eq_5, ex.eq_6, ex.eq_7, ex.eq_8, ex.eq_9, ex.eq_10, ev.eq_1, ev.eq_2, ev.eq_3, ev.eq_4, ev.eq_5, ev.eq_6, ev.eq_7, ev.eq_8, ev.eq_9, ev.eq_10, ev.eq_11, ev.eq_12, ev.eq_13, ev.eq_14, ev.eq_15, ev.eq_16, ev.eq_17, ev.eq_18, ev.eq_19, ev.eq_22, ev.eq_23, evs, evT, evI, st, sts, prim1, prim2, primN, startD, truth_bl, truth_int, truth_non, ixD, seqOf, itSeq, tyD, newL, line, keyOf, kget, gOk, wipeD, allBls, allInts, atI, ixN, gc_pre, gc_same, gcb1, gcb2, gci1, gci2, gcn1, gcn2, gcs1, gcs2, below_bl, below_int, below_non, below_str, below_tup, below_gd, belows, eqP_int, get_last, set_last, enumD], ?_, by rw [unz_row]⟩⟩
        refine ev_m2 (d1 := row (lt1 r)) (d2 := row (lt1 r.reverse)) (h1 := h2 ++ [.lst acc]) ?_ ?_ min2_m2r
        · simp [Z.run, exs, ex.eq_1, ex.eq_2, ex.eq_3, ex.eq_4, ex.eq_5, ex.eq_6, ex.eq_7, ex.eq_8, ex.eq_9, ex.eq_10, ev.eq_1, ev.eq_2, ev.eq_3, ev.eq_4, ev.eq_5, ev.eq_6, ev.eq_7, ev.eq_8, ev.eq_9, ev.eq_10, ev.eq_11, ev.eq_12, ev.eq_13, ev.eq_14, ev.eq_15, ev.eq_16, ev.eq_17, ev.eq_18, ev.eq_19, ev.eq_22, ev.eq_23, evs, evT, evI, st, sts, prim1, prim2, primN, startD, truth_bl, truth_int, truth_non, ixD, seqOf, itSeq, tyD, newL, line, keyOf, kget, gOk, wipeD, allBls, allInts, atI, ixN, gc_pre, gc_same, gcb1, gcb2, gci1, gci2, gcn1, gcn2, gcs1, gcs2, below_bl, below_int, below_non, below_str, below_tup, below_gd, belows, eqP_int, get_last, set_last, enumD, e3]
        · simp [Z.run, exs, ex.eq_1, ex.eq_2, ex.eq_3, ex.eq_4, ex.eq_5, ex.eq_6, ex.eq_7, ex.eq_8, ex.eq_9, ex.eq_10, ev.eq_1, ev.eq_2, ev.eq_3, ev.eq_4, ev.eq_5, ev.eq_6, ev.eq_7, ev.eq_8, ev.eq_9, ev.eq_10, ev.eq_11, ev.eq_12, ev.eq_13, ev.eq_14, ev.eq_15, ev.eq_16, ev.eq_17, ev.eq_18, ev.eq_19, ev.eq_22, ev.eq_23, evs, evT, evI, st, sts, prim1, prim2, primN, startD, truth_bl, truth_int, truth_non, ixD, seqOf, itSeq, tyD, newL, line, keyOf, kget, gOk, wipeD, allBls, allInts, atI, ixN, gc_pre, gc_same, gcb1, gcb2, gci1, gci2, gcn1, gcn2, gcs1, gcs2, below_bl, below_int, below_non, below_str, below_tup, below_gd, belows, eqP_int, get_last, set_last, enumD, rev_zs, e4]) i4 (by simp [Z.line]; omega)
    rw [rows_fm (k := fun r => row (m2r (lt1 r) (lt1 r.reverse))) fun r _ => by rw [unz_row]] at e2
    have hm : rs.map (fun r => row (m2r (lt1 r) (lt1 r.reverse))) = (rs.map fun r => m2r (lt1 r) (lt1 r.reverse)).map row := by
      rw [List.map_map]
      rfl
    rw [hm] at e2
    obtain ⟨ms, p2, e3⟩ := ev_sorted (h1 := h2) (rs := rs.map fun r => m2r (lt1 r) (lt1 r.reverse)) e2 (by simpa using hl)
    refine ⟨ms, ⟨_, p2, PW.map (fun l => ?_) rs⟩, ?_⟩
    · unfold m2r
      split
      · exact (lt1_perm _).trans (List.reverse_perm l)
      · exact lt1_perm _
    · have e4 : prim1 .tuple (.ref (h2.length + 1)) (h2 ++ [.lst ((rs.map fun r => m2r (lt1 r) (lt1 r.reverse)).map row), .lst (ms.map row)]) = some (.tup (ms.map row), h2 ++ [.lst ((rs.map fun r => m2r (lt1 r) (lt1 r.reverse)).map row), .lst (ms.map row)]) := by
        simp only [prim1, seqOf, get_snd]
      rw [fn12]
      simp only [d12, DefT.fn, ir12]
      refine run_rt rfl (exs_nx x1 (exs_nx (ex_ite (t := .val (.var 1)) (b := .nil) (c := false) (h1 := h2) (r := some (.nx [some v, some (.bl false), some (.ref (h.length + 1)), none] h2)) (by simp [Z.run, exs, ex.eq_1, ex.eq_2, ex.eq_3, ex.eq_4, ex.eq_5, ex.eq_6, ex.eq_7, ex.eq_8, ex.eq_9, ex.eq_10, ev.eq_1, ev.eq_2, ev.eq_3, ev.eq_4, ev.eq_5, ev.eq_6, ev.eq_7, ev.eq_8, ev.eq_9, ev.eq_10, ev.eq_11, ev.eq_12, ev.eq_13, ev.eq_14, ev.eq_15, ev.eq_16, ev.eq_17, ev.eq_18, ev.eq_19, ev.eq_22, ev.eq_23, evs, evT, evI, st, sts, prim1, prim2, primN, startD, truth_bl, truth_int, truth_non, ixD, seqOf, itSeq, tyD, newL, line, keyOf, kget, gOk, wipeD, allBls, allInts, atI, ixN, gc_pre, gc_same, gcb1, gcb2, gci1, gci2, gcn1, gcn2, gcs1, gcs2, below_bl, below_int, below_non, below_str, below_tup, below_gd, belows, eqP_int, get_last, set_last, enumD]) (by rfl)) (exs_rt (ex_ret (ev_tuple e3 e4))))) ?_
      rw [hh2, List.append_assoc]
      exact gc_pre belows_rows
end K14
end

-- M7
section
set_option Elab.async false
set_option linter.all false
set_option maxRecDepth 100000
set_option maxHeartbeats 1000000
namespace K14
open PySem L2 Z
/-- the rows that some values stand for -/
inductive PWV (h : Hh) : List D → List (List Int) → Prop
  | nil : PWV h [] []
  | cons {x : D} {l : List Int} {xs : List D} {ls : List (List Int)} : SeqV h x (zs l) → PWV h xs ls → PWV h (x :: xs) (l :: ls)
theorem PWV.app {h t : Hh} {xs : List D} {ls : List (List Int)} (q : PWV h xs ls) : PWV (h ++ t) xs ls := by
  induction q with
  | nil => exact .nil
  | cons q _ ih => exact .cons q.app ih
/-- read a row -/
def rdz (h : Hh) (x : D) : List Int := match seqOf h x with
  | some xs => unz (.tup xs)
  | none => []
theorem rdz_eq {h : Hh} {x : D} {l : List Int} (q : SeqV h x (zs l)) : rdz h x = l := by
  unfold rdz
  rw [q.seq]
  exact unz_row
theorem PWV.fm {h : Hh} {xs : List D} {ls : List (List Int)} (q : PWV h xs ls) : xs.filterMap (fun x => some (row (rdz h x))) = ls.map row := by
  rw [fm_some]
  induction q with
  | nil => rfl
  | cons q _ ih => rw [List.map_cons, List.map_cons, rdz_eq q, ih]
theorem PWV.mem {h : Hh} {xs : List D} {ls : List (List Int)} (q : PWV h xs ls) : ∀ x ∈ xs, ∃ l ∈ ls, SeqV h x (zs l) := by
  induction q with
  | nil => exact fun x hx => absurd hx (by simp)
  | cons q _ ih =>
    intro x hx
    rcases List.mem_cons.mp hx with rfl | hx
    · exact ⟨_, List.mem_cons_self, q⟩
    · obtain ⟨l, h1, h2⟩ := ih x hx
      exact ⟨l, List.mem_cons_of_mem _ h1, h2⟩
theorem PWV.len {h : Hh} {xs : List D} {ls : List (List Int)} (q : PWV h xs ls) : xs.length = ls.length := by
  induction q with
  | nil => rfl
  | cons _ _ ih => simp [ih]
theorem SeqV.isSeq {h : Hh} {v : D} {xs : List D} (q : SeqV h v xs) : prim1 .isSeq v h = some (.bl true, h) := by
  rcases q.ty with e | e <;> simp [prim1, e]
theorem ev_call1 {G : GEnv} {cs : CS} {f : Nat} {X : Ex} {s : Sl} {h h1 : Hh} {d : D} {r : Option (D × Hh)} (hX : ev G cs X s h = some (d, h1)) (e : cs.fn f [d] h1 = r) : ev G cs (.call f (.cons X .nil)) s h = r := by
  simp only [ev, evs, hX, e]
theorem ev_un {G : GEnv} {cs : CS} {p : Prim} {X : Ex} {s : Sl} {h h1 : Hh} {d : D} {r : Option (D × Hh)} (hX : ev G cs X s h = some (d, h1)) (e : prim1 p d h1 = r) : ev G cs (.un p X) s h = r := by
  simp only [ev, hX, e]
theorem t_needrings (n : Nat) (v : D) (xs : List D) (rs : List (List Int)) (h : Hh) (q : SeqV h v xs) (p : PWV h xs rs) (hl : rs.length ≤ 1000) (hr : ∀ r ∈ rs, r.length ≤ 1000 ∧ OkOrd r) : (S (n+3)).fn 14 [v] h = some (.ref h.length, h ++ [.lst (rs.map row)]) := by
  obtain ⟨g, i1, i2⟩ := q.it
  have e1 := ev_lc (G := cfg.G) (cs := S (n+2)) (it := .seq (.var 0)) (t := .nm 1) (ifs := .yes) (e := .call 13 (.cons (.con (.str "rings")) (.cons (.var 1) .nil))) (own := [1]) (s := [some v, none]) (h := h) (h1 := h) (xs := xs) (g := g)
    (f := fun x => some (row (rdz h x))) (evI_seq rfl i1) (fun x hx acc => by
      obtain ⟨r, hr', hq⟩ := p.mem x hx
      obtain ⟨l1, l2⟩ := hr r hr'
      have e2 := t_needorders n "rings" x r (h ++ [.lst acc]) hq.app (by
        unfold Z.line
        omega) l2
      refine ⟨[some v, some x], by simp [Z.run, exs, ex.eq_1, ex.eq_2, ex.eq_3, ex.eq_4, ex.eq_5, ex.eq_6, ex.eq_7, ex.eq_8, ex.eq_9, ex.eq_10, ev.eq_1, ev.eq_2, ev.eq_3, ev.eq_4, ev.eq_5, ev.eq_6, ev.eq_7, ev.eq_8, ev.eq_9, ev.eq_10, ev.eq_11, ev.eq_12, ev.eq_13, ev.eq_14, ev.eq_15, ev.eq_16, ev.eq_17, ev.eq_18, ev.eq_19, ev.eq_22, ev.eq_23, evs, evT, evI, st, sts, prim1, prim2, primN, startD, truth_bl, truth_int, truth_non, ixD, seqOf, itSeq, tyD, newL, line, keyOf, kget, gOk, wipeD, allBls, allInts, atI, ixN, gc_pre, gc_same, gcb1, gcb2, gci1, gci2, gcn1, gcn2, gcs1, gcs2, below_bl, below_int, below_non, below_str, below_tup, below_gd, belows, eqP_int, get_last, set_last, enumD], .inl ⟨row r, by simp [Z.run, exs, ex.eq_1, ex.eq_2, ex.eq_3, ex.eq_4, ex.eq_5, ex.eq_6, ex.eq_7, ex.eq_8, ex.eq_9, ex.eq_10, ev.eq_1, ev.eq_2, ev.eq_3, ev.eq_4, ev.eq_5, ev.eq_6, ev.eq_7, ev.eq_8, ev.eq_9, ev.eq_10, ev.eq_11, ev.eq_12, ev.eq_13, ev.eq_14, ev.eq_15, ev.eq_16, ev.eq_17, ev.eq_18, ev.eq_19, ev.eq_22, ev.eq_23, evs, evT, evI, st, sts, prim1, prim2, primN, startD, truth_bl, truth_int, truth_non, ixD, seqOf, itSeq, tyD, newL, line, keyOf, kget, gOk, wipeD, allBls, allInts, atI, ixN, gc_pre, gc_same, gcb1, gcb2, gci1, gci2, gcn1, gcn2, gcs1, gcs2, below_bl, below_int, below_non, below_str, below_tup, below_gd, belows, eqP_int, get_last, set_last, enumD], ?_, by rw [rdz_eq hq]⟩⟩
      simp [Z.run, exs, ex.eq_1, ex.eq_2, ex.eq_3, ex.eq_4, ex.eq_5, ex.eq_6, ex.eq_7, ex.eq_8, ex.eq_9, ex.eq_10, ev.eq_1, ev.eq_2, ev.eq_3, ev.eq_4, ev.eq_5, ev.eq_6, ev.eq_7, ev.eq_8, ev.eq_9, ev.eq_10, ev.eq_11, ev.eq_12, ev.eq_13, ev.eq_14, ev.eq_15, ev.eq_16, ev.eq_17, ev.eq_18, ev.eq_19, ev.eq_22, ev.eq_23, evs, evT, evI, st, sts, prim1, prim2, primN, startD, truth_bl, truth_int, truth_non, ixD, seqOf, itSeq, tyD, newL, line, keyOf, kget, gOk, wipeD, allBls, allInts, atI, ixN, gc_pre, gc_same, gcb1, gcb2, gci1, gci2, gcn1, gcn2, gcs1, gcs2, below_bl, below_int, below_non, below_str, below_tup, below_gd, belows, eqP_int, get_last, set_last, enumD, e2]) i2 (by
      rw [p.len]
      unfold Z.line
      omega)
  rw [p.fm] at e1
  rw [show (S (n+3)).fn 14 [v] h = Z.run cfg.G (S (n+2)) d14.fn [v] h from rfl]
  simp only [d14, DefT.fn, ir14]
  have e3 := ev_un (G := cfg.G) (cs := S (n+2)) (p := .isSeq) (X := .var 0) (s := [some v, none]) (ev_var rfl) q.isSeq
  have e4 : evT cfg.G (S (n+2)) (.not (.val (.un .isSeq (.var 0)))) [some v, none] h = some (false, h) := by
    simp only [evT, e3, truth_bl]
    rfl
  exact run_rt rfl (exs_nx (ex_ite (b := .nil) (r := some (.nx [some v, none] h)) e4 (by rfl)) (exs_rt (ex_ret e1))) (gc_new (o := .lst _) belows_rows)
end K14
end

-- M8
section
set_option Elab.async false
set_option linter.all false
set_option maxRecDepth 100000
set_option maxHeartbeats 1000000
namespace K14
open PySem L2 Z
theorem enc_int {h : Hh} {i : Int} : encD h (.int i) = .int i := by simp [encD, toP, toPW]
theorem depth_zs {h : Hh} : ∀ (l : List Int), PyData.depthAll ((zs l).map (encD h)) = 0
  | [] => by simp [zs, PyData.depthAll]
  | i :: l => by
    have := depth_zs (h := h) l
    simp only [zs_cons, List.map_cons, enc_int, PyData.depthAll, this]
    simp [PyData.depth]
theorem data_zs {h : Hh} (l : List Int) : dataB h (zs l) = true := by
  have d := depth_zs (h := h) l
  simp only [dataB, Bool.and_eq_true, decide_eq_true_eq, d]
  refine ⟨⟨⟨?_, ?_⟩, ?_⟩, by omega⟩
  · rw [List.all_eq_true]
    intro x hx
    obtain ⟨i, _, rfl⟩ := zs_mem hx
    simp [toP, toPW]
  · rw [List.all_eq_true]
    intro x hx
    rw [List.all_eq_true]
    intro y hy
    obtain ⟨i, _, rfl⟩ := zs_mem hx
    obtain ⟨j, _, rfl⟩ := zs_mem hy
    simp [enc_int, PySem.W.alike]
  · rw [List.all_eq_true]
    intro x hx
    obtain ⟨i, _, rfl⟩ := zs_mem hx
    simp [enc_int, nonP]
theorem perm_zs {L : List D} {l : List Int} (p : L.Perm (zs l)) : ∃ k : List Int, k.Perm l ∧ L = zs k := by
  refine ⟨unz (.tup L), ?_, ?_⟩
  · have q : (unz (.tup L)).Perm (unz (.tup (zs l))) := p.filterMap _
    rw [show unz (.tup (zs l)) = l from unz_row] at q
    exact q
  · have hx : ∀ x ∈ L, ∃ i, x = .int i := fun x hx => by
      obtain ⟨i, _, e⟩ := zs_mem (p.mem_iff.mp hx)
      exact ⟨i, e⟩
    clear p
    induction L with
    | nil => rfl
    | cons x L ih =>
      obtain ⟨i, rfl⟩ := hx x List.mem_cons_self
      have := ih fun y hy => hx y (List.mem_cons_of_mem _ hy)
      show .int i :: L = zs (i :: unz (.tup L))
      rw [zs_cons, ← this]
theorem sort_zs (h : Hh) (l : List Int) : ∃ k : List Int, k.Perm l ∧ sortD h (zs l) = zs k := perm_zs (List.mergeSort_perm _ _)
theorem get_mid {h t : Hh} {o : O} : (h ++ o :: t)[h.length]? = some o := by simp
theorem set_mid {h t : Hh} {o o' : O} : (h ++ o :: t).set h.length o' = h ++ o' :: t := by simp
theorem gc_init {h t : Hh} {a b : O} (hb : belowO (h.length + 1) b = true) : gc (h ++ [a]) (.non, h ++ b :: t) = (.non, h ++ [b]) := by
  have hz : ∀ (k : Hh) (N : Nat), belowO N b = true → stable N (k ++ [a]) (k ++ b :: t) = true := by
    intro k N hN
    unfold stable
    induction k with
    | nil => simp [hN]
    | cons o k ih => simpa using ih
  have e := hz h (h ++ [a]).length (by simpa using hb)
  unfold gc
  simp only [e, if_true]
  simp [below]
  rw [show h ++ b :: t = (h ++ [b]) ++ t by simp]
  exact List.take_left' (by simp)
theorem sortB_zs {h : Hh} (l : List Int) : sortB h (zs l) = true := by
  simp only [sortB, Bool.or_eq_true]
  right
  rw [List.all_eq_true]
  intro x hx
  obtain ⟨i, _, rfl⟩ := zs_mem hx
  simp [enc_int, Z.tupP]
theorem sorted_zs {h : Hh} {v : D} {l : List Int} (q : SeqV h v (zs l)) (hl : l.length ≤ 1000) : ∃ k : List Int, k.Perm l ∧ prim1 .sorted v h = some (.ref h.length, h ++ [.lst (zs k)]) := by
  obtain ⟨k, p, e⟩ := sort_zs h l
  refine ⟨k, p, ?_⟩
  have hl2 : (zs l).length ≤ Z.line := by
    rw [zs_len]
    unfold Z.line
    omega
  simp [prim1, q.seq, data_zs, sortB_zs, hl2, e, newL]
/-- a full, as it lies -/
def fullO (hd cp : Int) (inner : List Int) (rings : List (List Int)) : O := .ins 0 [(6, .int hd), (7, .int cp), (8, row inner), (9, .tup (rings.map row)), (10, .tup [.int hd, .int cp, row inner, .tup (rings.map row)])]
theorem below_full {n : Nat} {hd cp : Int} {inner : List Int} {rings : List (List Int)} : belowO n (fullO hd cp inner rings) = true := by
  have h1 : below n (row inner) = true := below_zs
  have h2 : below n (.tup (rings.map row)) = true := belows_rows
  simp [fullO, belowO, belows, below_int, h1, h2, below_tup]
theorem allInts_nat {α : Type} {f : α → Nat} : ∀ (l : List α), allInts (l.map fun a => D.int (f a : Nat)) = some (l.map fun a => ((f a : Nat) : Int))
  | [] => rfl
  | a :: l => by
    simp [allInts, allInts_nat l]
theorem sum_nat : ∀ (l : List Nat), (l.map fun (a : Nat) => (a : Int)).sum = ((l.sum : Nat) : Int)
  | [] => rfl
  | a :: l => by
    have := sum_nat l
    simp only [List.map_cons, List.sum_cons, this]
    omega
end K14
end

-- M9
section
set_option Elab.async false
set_option linter.all false
set_option maxRecDepth 100000
set_option maxHeartbeats 1000000
namespace K14
open PySem L2 Z
theorem fn34 (n vs h) : (S (n+1)).fn 34 vs h = Z.run cfg.G (S n) d34.fn vs h := rfl
theorem max1_eq {n : Nat} : (if (n : Int) > 1 then (n : Int) else 1) = ((max 1 n : Nat) : Int) := by
  split <;> omega
theorem ev_app1 {G : GEnv} {cs : CS} {p : Prim} {X : Ex} {s : Sl} {h h1 : Hh} {d1 : D} {r : Option (D × Hh)} (hX : ev G cs X s h = some (d1, h1)) (e : prim1 p d1 h1 = r) : ev G cs (.app p (.cons X .nil)) s h = r := by
  simp only [ev, evs, hX, primN, e]
theorem ev_bin {G : GEnv} {cs : CS} {p : Prim} {X Y : Ex} {s : Sl} {h h1 h2 : Hh} {d1 d2 : D} {r : Option (D × Hh)} (hX : ev G cs X s h = some (d1, h1)) (hY : ev G cs Y s h1 = some (d2, h2)) (e : prim2 G p d1 d2 h2 = r) : ev G cs (.bin p X Y) s h = r := by
  simp only [ev, hX, hY, e]
theorem evT_val {G : GEnv} {cs : CS} {X : Ex} {s : Sl} {h h1 : Hh} {b : Bool} (hX : ev G cs X s h = some (.bl b, h1)) : evT G cs (.val X) s h = some (b, h1) := by
  simp only [evT, hX, truth_bl]
theorem ev_glo {G : GEnv} {cs : CS} {g : Nat} {s : Sl} {h : Hh} : ev G cs (.glo g) s h = some (G.glo g, h) := by
  simp only [ev]
theorem eqP_int0 {h : Hh} {i j : Int} : eqP h (.int i) (.int j) = some (i == j) := eqP_int
theorem ev_fld0 {cs : CS} {f i : Nat} {s : Sl} {h t : Hh} {fs : List (Nat × D)} {v : D} (hs : s[i]? = some (some (.ref h.length))) (hk : kget f fs = some v) (hf : cfg.G.fld 0 f = true) : ev cfg.G cs (.fld f (.var i)) s (h ++ .ins 0 fs :: t) = some (v, h ++ .ins 0 fs :: t) := by
  simp only [ev, hs, get_mid, hf, hk, if_true]
theorem ex_fld0 {cs : CS} {f : Nat} {s : Sl} {h t : Hh} {h0 : Hh} {fs : List (Nat × D)} {X : Ex} {d : D} (hX : ev cfg.G cs X s h0 = some (d, h ++ .ins 0 fs :: t)) (hs : s[0]? = some (some (.ref h.length))) (hf : cfg.G.fld 0 f = true) (hl : fs.length < 1000) : ex cfg.G cs (.asg (.fld (.var 0) f) X) s h0 = some (.nx s (h ++ .ins 0 (fput f d fs) :: t)) := by
  simp only [ex, hX, st, ev, hs, get_mid, set_mid, hf, hl, and_self, if_true]
theorem t_init (n : Nat) (hd cp : Int) (v1 v2 : D) (l : List Int) (xs : List D) (rs : List (List Int)) (h : Hh) (q1 : SeqV h v1 (zs l)) (q2 : SeqV h v2 xs) (p : PWV h xs rs)
    (h1 : 0 ≤ hd ∧ hd ≤ 60) (h2 : 0 ≤ cp ∧ cp ≤ 60) (h3 : ¬ (0 < hd ∧ 0 < cp)) (o1 : OkOrd l) (o2 : ∀ r ∈ rs, OkOrd r) (hm : l.length + (rs.map fun r => max 1 r.length).sum ≤ 62) (hrs : rs.length ≤ 62) (hr : ∀ r ∈ rs, r.length ≤ 62) :
    ∃ k ms, k.Perm l ∧ Same ms rs ∧ (S (n+5)).fn 34 [.ref h.length, .int hd, .int cp, v1, v2] (h ++ [.ins 0 []]) = some (.non, h ++ [fullO hd cp k ms]) := by
  have a1 := t_needint (n+3) "handles" hd 0 60 (h ++ [.ins 0 []]) h1.1 h1.2
  have a2 := t_needint (n+3) "caps" cp 0 60 (h ++ [.ins 0 []]) h2.1 h2.2
  have a3 := t_needorders (n+2) "inner" v1 l (h ++ [.ins 0 []]) q1.app (by unfold Z.line; omega) o1
  have a4 := t_needrings (n+1) v2 xs rs (h ++ [.ins 0 []]) q2.app p.app (by omega) (fun r hr' => ⟨by have := hr r hr'; omega, o2 r hr'⟩)
  have l1 : (h ++ [O.ins 0 []]).length = h.length + 1 := by simp
  rw [l1] at a4
  have b1 := ev_lc (G := cfg.G) (cs := S (n+4)) (it := .seq (.var 6)) (t := .nm 7) (ifs := .yes) (e := .app .max2 (.cons (.con (.int 1)) (.cons (.app .len (.cons (.var 7) .nil)) .nil))) (own := [7]) (s := [some (.ref h.length), some (.int hd), some (.int cp), some v1, some v2, some (row l), some (.ref (h.length + 1)), none]) (h := h ++ [.ins 0 []] ++ [.lst (rs.map row)]) (h1 := h ++ [.ins 0 []] ++ [.lst (rs.map row)]) (xs := rs.map row) (g := [(h.length + 1, .lst (rs.map row))])
    (f := fun x => some (.int ((max 1 (unz x).length : Nat) : Int))) (evI_seq (v := .ref (h.length + 1)) rfl (by simp [itSeq])) (fun x hx acc => by
      obtain ⟨r, hr', rfl⟩ := rows_mem hx
      refine ⟨[some (.ref h.length), some (.int hd), some (.int cp), some v1, some v2, some (row l), some (.ref (h.length + 1)), some (row r)], by simp [Z.run, exs, ex.eq_1, ex.eq_2, ex.eq_3, ex.eq_4, ex.eq_5, ex.eq_6, ex.eq_7, ex.eq_8, ex.eq_9, ex.eq_10, ev.eq_1, ev.eq_2, ev.eq_3, ev.eq_4, ev.eq_5, ev.eq_6, ev.eq_7, ev.eq_8, ev.eq_9, ev.eq_10, ev.eq_11, ev.eq_12, ev.eq_13, ev.eq_14, ev.eq_15, ev.eq_16, ev.eq_17, ev.eq_18, ev.eq_19, ev.eq_22, ev.eq_23, evs, evT, evI, st, sts, prim1, prim2, primN, startD, truth_bl, truth_int, truth_non, ixD, seqOf, itSeq, tyD, newL, line, keyOf, kget, gOk, wipeD, allBls, allInts, atI, ixN, gc_pre, gc_same, gcb1, gcb2, gci1, gci2, gcn1, gcn2, gcs1, gcs2, below_bl, below_int, below_non, below_str, below_tup, below_gd, belows, eqP_int, get_last, set_last, enumD], .inl ⟨.int ((max 1 r.length : Nat) : Int), by simp [Z.run, exs, ex.eq_1, ex.eq_2, ex.eq_3, ex.eq_4, ex.eq_5, ex.eq_6, ex.eq_7, ex.eq_8, ex.eq_9, ex.eq_10, ev.eq_1, ev.eq_2, ev.eq_3, ev.eq_4, ev.eq_5, ev.eq_6, ev.eq_7, ev.eq_8, ev.eq_9, ev.eq_10, ev.eq_11, ev.eq_12, ev.eq_13, ev.eq_14, ev.eq_15, ev.eq_16, ev.eq_17, ev.eq_18, ev.eq_19, ev.eq_22, ev.eq_23, evs, evT, evI, st, sts, prim1, prim2, primN, startD, truth_bl, truth_int, truth_non, ixD, seqOf, itSeq, tyD, newL, line, keyOf, kget, gOk, wipeD, allBls, allInts, atI, ixN, gc_pre, gc_same, gcb1, gcb2, gci1, gci2, gcn1, gcn2, gcs1, gcs2, below_bl, below_int, below_non, below_str, below_tup, below_gd, belows, eqP_int, get_last, set_last, enumD], ?_, by rw [unz_row]⟩⟩
      simp [Z.run, exs, ex.eq_1, ex.eq_2, ex.eq_3, ex.eq_4, ex.eq_5, ex.eq_6, ex.eq_7, ex.eq_8, ex.eq_9, ex.eq_10, ev.eq_1, ev.eq_2, ev.eq_3, ev.eq_4, ev.eq_5, ev.eq_6, ev.eq_7, ev.eq_8, ev.eq_9, ev.eq_10, ev.eq_11, ev.eq_12, ev.eq_13, ev.eq_14, ev.eq_15, ev.eq_16, ev.eq_17, ev.eq_18, ev.eq_19, ev.eq_22, ev.eq_23, evs, evT, evI, st, sts, prim1, prim2, primN, startD, truth_bl, truth_int, truth_non, ixD, seqOf, itSeq, tyD, newL, line, keyOf, kget, gOk, wipeD, allBls, allInts, atI, ixN, gc_pre, gc_same, gcb1, gcb2, gci1, gci2, gcn1, gcn2, gcs1, gcs2, below_bl, below_int, below_non, below_str, below_tup, below_gd, belows, eqP_int, get_last, set_last, enumD, zs_len]
      omega) (by simp [gOk]) (by simp [Z.line]; omega)
  rw [rows_fm (k := fun r => .int ((max 1 r.length : Nat) : Int)) fun r _ => by rw [unz_row]] at b1
  have l2 : (h ++ [O.ins 0 []] ++ [O.lst (rs.map row)]).length = h.length + 2 := by simp
  rw [l2] at b1
  have c1 : evT cfg.G (S (n+4)) (.val (.bin .gt (.bin .add (.app .len (.cons (.var 5) .nil)) (.app .sum (.cons (.lc (.seq (.var 6)) (.nm 7) .yes (.app .max2 (.cons (.con (.int 1)) (.cons (.app .len (.cons (.var 7) .nil)) .nil))) [7]) .nil))) (.glo 3))) [some (.ref h.length), some (.int hd), some (.int cp), some v1, some v2, some (row l), some (.ref (h.length + 1)), none] (h ++ [.ins 0 []] ++ [.lst (rs.map row)]) = some (false, h ++ [.ins 0 []] ++ [.lst (rs.map row)] ++ [.lst (rs.map fun r => .int ((max 1 r.length : Nat) : Int))]) := by
    have g1 : (h ++ [.ins 0 []] ++ [.lst (rs.map row)] ++ [.lst (rs.map fun r => D.int ((max 1 r.length : Nat) : Int))])[h.length + 2]? = some (.lst (rs.map fun r => D.int ((max 1 r.length : Nat) : Int))) := by
      rw [← l2]
      exact get_last
    have g2 := allInts_nat (f := fun r : List Int => max 1 r.length) rs
    have g3 : (rs.map fun r => ((max 1 r.length : Nat) : Int)).sum = (((rs.map fun r => max 1 r.length).sum : Nat) : Int) := by
      have := sum_nat (rs.map fun r => max 1 r.length)
      rw [List.map_map] at this
      exact this
    generalize (rs.map fun r => D.int ((max 1 r.length : Nat) : Int)) = ys at *
    generalize (rs.map fun r => max 1 r.length).sum = t at *
    have g4 : ev cfg.G (S (n+4)) (.app .sum (.cons (.lc (.seq (.var 6)) (.nm 7) .yes (.app .max2 (.cons (.con (.int 1)) (.cons (.app .len (.cons (.var 7) .nil)) .nil))) [7]) .nil)) [some (.ref h.length), some (.int hd), some (.int cp), some v1, some v2, some (row l), some (.ref (h.length + 1)), none] (h ++ [.ins 0 []] ++ [.lst (rs.map row)]) = some (.int (t : Int), h ++ [.ins 0 []] ++ [.lst (rs.map row)] ++ [.lst ys]) := by
      refine ev_app1 b1 ?_
      simp only [prim1, g1, g2, g3]
    refine evT_val (ev_bin (h1 := h ++ [.ins 0 []] ++ [.lst (rs.map row)] ++ [.lst ys]) (ev_bin (d1 := .int (l.length : Int)) (h1 := h ++ [.ins 0 []] ++ [.lst (rs.map row)]) (ev_app1 (ev_var rfl) ?_) g4 (r := some (.int ((l.length : Int) + (t : Int)), _)) ?_) ev_glo ?_)
    · simp [prim1, zs_len]
    · simp [prim2]
    · show prim2 cfg.G .gt (.int ((l.length : Int) + (t : Int))) (.int 62) _ = _
      simp [prim2]
      omega
  obtain ⟨t0, ht0⟩ : ∃ t0 : Hh, t0 = [.lst (rs.map row), .lst (rs.map fun r => .int ((max 1 r.length : Nat) : Int))] := ⟨_, rfl⟩
  have hH : h ++ [O.ins 0 []] ++ [.lst (rs.map row)] ++ [.lst (rs.map fun r => .int ((max 1 r.length : Nat) : Int))] = h ++ .ins 0 [] :: t0 := by
    rw [ht0]
    simp
  rw [hH] at c1
  clear b1
  generalize hs : [some (D.ref h.length), some (.int hd), some (.int cp), some v1, some v2, some (row l), some (.ref (h.length + 1)), none] = s at c1
  have s0 : s[0]? = some (some (.ref h.length)) := by rw [← hs]; rfl
  have s1 : s[1]? = some (some (.int hd)) := by rw [← hs]; rfl
  have s2 : s[2]? = some (some (.int cp)) := by rw [← hs]; rfl
  have s5 : s[5]? = some (some (row l)) := by rw [← hs]; rfl
  have s6 : s[6]? = some (some (.ref (h.length + 1))) := by rw [← hs]; rfl
  have d1 := ex_fld0 (cs := S (n+4)) (f := 6) (h := h) (t := t0) (fs := []) (ev_var s1) s0 rfl (by simp)
  have d2 := ex_fld0 (cs := S (n+4)) (f := 7) (h := h) (t := t0) (fs := fput 6 (.int hd) []) (ev_var s2) s0 rfl (by simp [fput])
  obtain ⟨k, pk, ek⟩ := sorted_zs (h := h ++ .ins 0 (fput 7 (.int cp) (fput 6 (.int hd) [])) :: t0) (v := row l) (l := l) (.inl rfl) (by omega)
  obtain ⟨t1, ht1⟩ : ∃ t1 : Hh, t1 = t0 ++ [.lst (zs k)] := ⟨_, rfl⟩
  have hH2 : h ++ O.ins 0 (fput 7 (.int cp) (fput 6 (.int hd) [])) :: t0 ++ [.lst (zs k)] = h ++ O.ins 0 (fput 7 (.int cp) (fput 6 (.int hd) [])) :: t1 := by
    rw [ht1]
    simp
  have ek2 : prim1 .tuple (.ref (h ++ O.ins 0 (fput 7 (.int cp) (fput 6 (.int hd) [])) :: t0).length) (h ++ O.ins 0 (fput 7 (.int cp) (fput 6 (.int hd) [])) :: t0 ++ [.lst (zs k)]) = some (row k, h ++ O.ins 0 (fput 7 (.int cp) (fput 6 (.int hd) [])) :: t1) := by
    simp only [prim1, seqOf, get_last]
    rw [hH2]
  have d3 := ex_fld0 (cs := S (n+4)) (f := 8) (h := h) (t := t1) (fs := fput 7 (.int cp) (fput 6 (.int hd) [])) (ev_tuple (ev_app1 (ev_var s5) ek) ek2) s0 rfl (by simp [fput])
  have qq : SeqV (h ++ O.ins 0 (fput 8 (row k) (fput 7 (.int cp) (fput 6 (.int hd) []))) :: t1) (.ref (h.length + 1)) (rs.map row) := by
    refine .inr ⟨_, rfl, ?_⟩
    rw [ht1, ht0]
    simp
  obtain ⟨ms, sm, em⟩ := t_inorder (n+2) (.ref (h.length + 1)) (cp == 0) rs _ qq (by omega) (fun r hr' => by have := hr r hr'; omega)
  refine ⟨k, ms, pk, sm, ?_⟩
  have e9 : ev cfg.G (S (n+4)) (.call 12 (.cons (.var 6) (.cons (.bin .eq (.var 2) (.con (.int 0))) .nil))) s (h ++ O.ins 0 (fput 8 (row k) (fput 7 (.int cp) (fput 6 (.int hd) []))) :: t1) = some (.tup (ms.map row), h ++ O.ins 0 (fput 8 (row k) (fput 7 (.int cp) (fput 6 (.int hd) []))) :: t1) := by
    simp only [ev, evs, s6, s2, prim2, eqP_int0]
    exact em
  have d4 := ex_fld0 (cs := S (n+4)) (f := 9) (h := h) (t := t1) (fs := fput 8 (row k) (fput 7 (.int cp) (fput 6 (.int hd) []))) e9 s0 rfl (by simp [fput])
  have e10 : ev cfg.G (S (n+4)) (.tup (.cons (.var 1) (.cons (.var 2) (.cons (.fld 8 (.var 0)) (.cons (.fld 9 (.var 0)) .nil))))) s (h ++ O.ins 0 (fput 9 (.tup (ms.map row)) (fput 8 (row k) (fput 7 (.int cp) (fput 6 (.int hd) [])))) :: t1) = some (.tup [.int hd, .int cp, row k, .tup (ms.map row)], h ++ O.ins 0 (fput 9 (.tup (ms.map row)) (fput 8 (row k) (fput 7 (.int cp) (fput 6 (.int hd) [])))) :: t1) := by
    have f1 := ev_fld0 (cs := S (n+4)) (f := 8) (h := h) (t := t1) (fs := fput 9 (.tup (ms.map row)) (fput 8 (row k) (fput 7 (.int cp) (fput 6 (.int hd) [])))) (v := row k) s0 (by simp [fput, kget]) rfl
    have f2 := ev_fld0 (cs := S (n+4)) (f := 9) (h := h) (t := t1) (fs := fput 9 (.tup (ms.map row)) (fput 8 (row k) (fput 7 (.int cp) (fput 6 (.int hd) [])))) (v := .tup (ms.map row)) s0 (by simp [fput, kget]) rfl
    rw [ev.eq_4]
    simp only [evs, f1, f2, ev_var s1, ev_var s2]
    rfl
  have d5 := ex_fld0 (cs := S (n+4)) (f := 10) (h := h) (t := t1) (fs := fput 9 (.tup (ms.map row)) (fput 8 (row k) (fput 7 (.int cp) (fput 6 (.int hd) [])))) e10 s0 rfl (by simp [fput])
  have hgc : gc (h ++ [O.ins 0 []]) (.non, h ++ fullO hd cp k ms :: t1) = (.non, h ++ [fullO hd cp k ms]) := gc_init below_full
  have g60 : cfg.G.glo 2 = .int 60 := rfl
  have x1 : ex cfg.G (S (n+4)) (.exp (.call 1 (.cons (.con (.str "handles")) (.cons (.var 1) (.cons (.con (.int 0)) (.cons (.glo 2) .nil)))))) [some (D.ref h.length), some (.int hd), some (.int cp), some v1, some v2, none, none, none] (h ++ [.ins 0 []]) = some (.nx [some (D.ref h.length), some (.int hd), some (.int cp), some v1, some v2, none, none, none] (h ++ [.ins 0 []])) := by
    simp [Z.run, exs, ex.eq_1, ex.eq_2, ex.eq_3, ex.eq_4, ex.eq_5, ex.eq_6, ex.eq_7, ex.eq_8, ex.eq_9, ex.eq_10, ev.eq_1, ev.eq_2, ev.eq_3, ev.eq_4, ev.eq_5, ev.eq_6, ev.eq_7, ev.eq_8, ev.eq_9, ev.eq_10, ev.eq_11, ev.eq_12, ev.eq_13, ev.eq_14, ev.eq_15, ev.eq_16, ev.eq_17, ev.eq_18, ev.eq_19, ev.eq_22, ev.eq_23, evs, evT, evI, st, sts, prim1, prim2, primN, startD, truth_bl, truth_int, truth_non, ixD, seqOf, itSeq, tyD, newL, line, keyOf, kget, gOk, wipeD, allBls, allInts, atI, ixN, gc_pre, gc_same, gcb1, gcb2, gci1, gci2, gcn1, gcn2, gcs1, gcs2, below_bl, below_int, below_non, below_str, below_tup, below_gd, belows, eqP_int, get_last, set_last, enumD, g60, a1]
  have x2 : ex cfg.G (S (n+4)) (.exp (.call 1 (.cons (.con (.str "caps")) (.cons (.var 2) (.cons (.con (.int 0)) (.cons (.glo 2) .nil)))))) [some (D.ref h.length), some (.int hd), some (.int cp), some v1, some v2, none, none, none] (h ++ [.ins 0 []]) = some (.nx [some (D.ref h.length), some (.int hd), some (.int cp), some v1, some v2, none, none, none] (h ++ [.ins 0 []])) := by
    simp [Z.run, exs, ex.eq_1, ex.eq_2, ex.eq_3, ex.eq_4, ex.eq_5, ex.eq_6, ex.eq_7, ex.eq_8, ex.eq_9, ex.eq_10, ev.eq_1, ev.eq_2, ev.eq_3, ev.eq_4, ev.eq_5, ev.eq_6, ev.eq_7, ev.eq_8, ev.eq_9, ev.eq_10, ev.eq_11, ev.eq_12, ev.eq_13, ev.eq_14, ev.eq_15, ev.eq_16, ev.eq_17, ev.eq_18, ev.eq_19, ev.eq_22, ev.eq_23, evs, evT, evI, st, sts, prim1, prim2, primN, startD, truth_bl, truth_int, truth_non, ixD, seqOf, itSeq, tyD, newL, line, keyOf, kget, gOk, wipeD, allBls, allInts, atI, ixN, gc_pre, gc_same, gcb1, gcb2, gci1, gci2, gcn1, gcn2, gcs1, gcs2, below_bl, below_int, below_non, below_str, below_tup, below_gd, belows, eqP_int, get_last, set_last, enumD, g60, a2]
  have x3 : evT cfg.G (S (n+4)) (.and (.val (.bin .gt (.var 1) (.con (.int 0)))) (.val (.bin .gt (.var 2) (.con (.int 0))))) [some (D.ref h.length), some (.int hd), some (.int cp), some v1, some v2, none, none, none] (h ++ [.ins 0 []]) = some (false, h ++ [.ins 0 []]) := by
    by_cases c : 0 < hd
    · have c2 : ¬ 0 < cp := fun c2 => h3 ⟨c, c2⟩
      simp [Z.run, exs, ex.eq_1, ex.eq_2, ex.eq_3, ex.eq_4, ex.eq_5, ex.eq_6, ex.eq_7, ex.eq_8, ex.eq_9, ex.eq_10, ev.eq_1, ev.eq_2, ev.eq_3, ev.eq_4, ev.eq_5, ev.eq_6, ev.eq_7, ev.eq_8, ev.eq_9, ev.eq_10, ev.eq_11, ev.eq_12, ev.eq_13, ev.eq_14, ev.eq_15, ev.eq_16, ev.eq_17, ev.eq_18, ev.eq_19, ev.eq_22, ev.eq_23, evs, evT, evI, st, sts, prim1, prim2, primN, startD, truth_bl, truth_int, truth_non, ixD, seqOf, itSeq, tyD, newL, line, keyOf, kget, gOk, wipeD, allBls, allInts, atI, ixN, gc_pre, gc_same, gcb1, gcb2, gci1, gci2, gcn1, gcn2, gcs1, gcs2, below_bl, below_int, below_non, below_str, below_tup, below_gd, belows, eqP_int, get_last, set_last, enumD, c, c2]
    · simp [Z.run, exs, ex.eq_1, ex.eq_2, ex.eq_3, ex.eq_4, ex.eq_5, ex.eq_6, ex.eq_7, ex.eq_8, ex.eq_9, ex.eq_10, ev.eq_1, ev.eq_2, ev.eq_3, ev.eq_4, ev.eq_5, ev.eq_6, ev.eq_7, ev.eq_8, ev.eq_9, ev.eq_10, ev.eq_11, ev.eq_12, ev.eq_13, ev.eq_14, ev.eq_15, ev.eq_16, ev.eq_17, ev.eq_18, ev.eq_19, ev.eq_22, ev.eq_23, evs, evT, evI, st, sts, prim1, prim2, primN, startD, truth_bl, truth_int, truth_non, ixD, seqOf, itSeq, tyD, newL, line, keyOf, kget, gOk, wipeD, allBls, allInts, atI, ixN, gc_pre, gc_same, gcb1, gcb2, gci1, gci2, gcn1, gcn2, gcs1, gcs2, below_bl, below_int, below_non, below_str, below_tup, below_gd, belows, eqP_int, get_last, set_last, enumD, c]
  have x4 : ex cfg.G (S (n+4)) (.asg (.tp (.cons (.nm 5) (.cons (.nm 6) .nil))) (.tup (.cons (.call 13 (.cons (.con (.str "inner")) (.cons (.var 3) .nil))) (.cons (.call 14 (.cons (.var 4) .nil)) .nil)))) [some (D.ref h.length), some (.int hd), some (.int cp), some v1, some v2, none, none, none] (h ++ [.ins 0 []]) = some (.nx s (h ++ [.ins 0 []] ++ [.lst (rs.map row)])) := by
    rw [← hs]
    simp [Z.run, exs, ex.eq_1, ex.eq_2, ex.eq_3, ex.eq_4, ex.eq_5, ex.eq_6, ex.eq_7, ex.eq_8, ex.eq_9, ex.eq_10, ev.eq_1, ev.eq_2, ev.eq_3, ev.eq_4, ev.eq_5, ev.eq_6, ev.eq_7, ev.eq_8, ev.eq_9, ev.eq_10, ev.eq_11, ev.eq_12, ev.eq_13, ev.eq_14, ev.eq_15, ev.eq_16, ev.eq_17, ev.eq_18, ev.eq_19, ev.eq_22, ev.eq_23, evs, evT, evI, st, sts, prim1, prim2, primN, startD, truth_bl, truth_int, truth_non, ixD, seqOf, itSeq, tyD, newL, line, keyOf, kget, gOk, wipeD, allBls, allInts, atI, ixN, gc_pre, gc_same, gcb1, gcb2, gci1, gci2, gcn1, gcn2, gcs1, gcs2, below_bl, below_int, below_non, below_str, below_tup, below_gd, belows, eqP_int, get_last, set_last, enumD, a3, a4]
  rw [fn34]
  simp only [d34, DefT.fn, ir34]
  exact run_nx rfl (exs_nx x1 (exs_nx x2 (exs_nx (ex_ite (b := .nil) (r := some (.nx _ _)) x3 (by rfl)) (exs_nx x4 (exs_nx (ex_ite (b := .nil) (r := some (.nx _ _)) c1 (by rfl)) (exs_nx d1 (exs_nx d2 (exs_nx d3 (exs_nx d4 (exs_nx d5 (by rfl)))))))))) ) hgc
end K14
end

-- M10
section
set_option Elab.async false
set_option linter.all false
set_option maxRecDepth 100000
set_option maxHeartbeats 1000000
namespace K14
open PySem L2 Z
/-- what a full is made of, well-formed -/
structure OkF (hd cp : Int) (l : List Int) (rs : List (List Int)) : Prop where
  hd0 : 0 ≤ hd
  hd1 : hd ≤ 60
  cp0 : 0 ≤ cp
  cp1 : cp ≤ 60
  one : ¬ (0 < hd ∧ 0 < cp)
  inn : OkOrd l
  rim : ∀ r ∈ rs, OkOrd r
  pts : l.length + (rs.map fun r => max 1 r.length).sum ≤ 62
theorem sum_ge : ∀ (rs : List (List Int)), rs.length ≤ (rs.map fun r => max 1 r.length).sum ∧ ∀ r ∈ rs, r.length ≤ (rs.map fun r => max 1 r.length).sum
  | [] => ⟨Nat.le_refl _, fun r hr => absurd hr (by simp)⟩
  | r :: rs => by
    obtain ⟨h1, h2⟩ := sum_ge rs
    simp only [List.map_cons, List.sum_cons, List.length_cons]
    refine ⟨by omega, fun q hq => ?_⟩
    rcases List.mem_cons.mp hq with rfl | hq
    · omega
    · have := h2 q hq
      omega
theorem mi34 (n vs h) : (S (n+1)).mi 34 vs h = (S n).fn 34 vs h := rfl
theorem ev_new {n : Nat} {hd cp : Int} {v1 v2 : D} {l : List Int} {xs : List D} {rs : List (List Int)} {es : Exs} {s : Sl} {h h1 : Hh} (he : evs cfg.G (S (n+6)) es s h = some ([.int hd, .int cp, v1, v2], h1)) (q1 : SeqV h1 v1 (zs l)) (q2 : SeqV h1 v2 xs) (p : PWV h1 xs rs) (o : OkF hd cp l rs) :
    ∃ k ms, k.Perm l ∧ Same ms rs ∧ ev cfg.G (S (n+6)) (.new 0 es) s h = some (.ref h1.length, h1 ++ [fullO hd cp k ms]) := by
  have hp := o.pts
  obtain ⟨w1, w2⟩ := sum_ge rs
  obtain ⟨k, ms, a, b, e⟩ := t_init n hd cp v1 v2 l xs rs h1 q1 q2 p ⟨o.hd0, o.hd1⟩ ⟨o.cp0, o.cp1⟩ o.one o.inn o.rim o.pts (by omega) (fun r hr => by have := w2 r hr; omega)
  refine ⟨k, ms, a, b, ?_⟩
  have hi : cfg.G.ini 0 = 34 := rfl
  simp only [ev, he, hi, mi34, e]
theorem Same.flat {ms rs : List (List Int)} (q : Same ms rs) : ms.flatten.Perm rs.flatten := by
  obtain ⟨ks, p, w⟩ := q
  refine p.flatten.trans ?_
  clear p
  induction w with
  | nil => exact List.Perm.refl _
  | cons a _ ih =>
    rw [List.flatten_cons, List.flatten_cons]
    exact a.append ih
theorem Same.len {ms rs : List (List Int)} (q : Same ms rs) : ms.length = rs.length := by
  obtain ⟨ks, p, w⟩ := q
  rw [p.length_eq]
  clear p
  induction w with
  | nil => rfl
  | cons _ _ ih => simp [ih]
/-- what a row of orders loses, in parts of 14280 -/
def wt (m : Int) : Int := 14280 - 14280 / m
def lost (l : List Int) : Int := (l.map wt).sum
theorem lost_perm {a b : List Int} (p : a.Perm b) : lost a = lost b := by
  unfold lost
  induction p with
  | nil => rfl
  | cons a _ ih => simp only [List.map_cons, List.sum_cons, ih]
  | swap a b l =>
    simp only [List.map_cons, List.sum_cons]
    omega
  | trans _ _ h1 h2 => exact h1.trans h2
end K14
end

-- M11
section
set_option Elab.async false
set_option linter.all false
set_option maxRecDepth 100000
set_option maxHeartbeats 1000000
namespace K14
open PySem L2 Z
/-- a walk with a rule about what is still to come -/
theorem forL_rest {b : D → Sl → Hh → Option Out} {g : Gd} {h : Hh} (J : List D → Sl → Prop) (hg : gOk g h = true) (hb : ∀ x xs s, J (x :: xs) s → ∃ s', b x s h = some (.nx s' h) ∧ J xs s') : ∀ {xs : List D} {s : Sl}, J xs s → ∃ s', forL g b xs s h = some (.nx s' h) ∧ J [] s'
  | [], s, hj => ⟨s, by simp [forL, hg], hj⟩
  | x :: xs, s, hj => by
    obtain ⟨s1, e1, j1⟩ := hb x xs s hj
    obtain ⟨s2, e2, j2⟩ := forL_rest J hg hb j1
    exact ⟨s2, by simp [forL, hg, e1, e2], j2⟩
theorem fo_rest {G : GEnv} {cs : CS} {it : Z.It} {t : Z.Tg} {b : Stms} {s : Sl} {h h1 : Hh} {xs : List D} {g : Gd} (he : evI G cs it s h = some (xs, g, h1)) (J : List D → Sl → Prop) (hg : gOk g h1 = true)
    (hb : ∀ x xs s, J (x :: xs) s → ∃ s2 s', st G cs t x s h1 = some (s2, h1) ∧ exs G cs b s2 h1 = some (.nx s' h1) ∧ J xs s') (hj : J xs s) : ∃ s', ex G cs (.fo it t b) s h = some (.nx s' h1) ∧ J [] s' := by
  simp only [ex, he]
  refine forL_rest J hg (fun x xs s js => ?_) hj
  obtain ⟨s2, s', e1, e2, j⟩ := hb x xs s js
  exact ⟨s', by simp only [e1, e2], j⟩
/-- orders that the law draws -/
def Nice (l : List Int) : Prop := ∀ m ∈ l, 1 ≤ m ∧ m ≤ 120 ∧ m * (14280 / m) = 14280
theorem wt_b {m : Int} (h1 : 1 ≤ m) : 0 ≤ wt m ∧ wt m ≤ 14280 := by
  unfold wt
  have a : 0 ≤ 14280 / m := Int.ediv_nonneg (by omega) (by omega)
  have b : 14280 / m ≤ 14280 := Int.ediv_le_self _ (by omega)
  omega
theorem fn16 (n vs h) : (S (n+1)).fn 16 vs h = Z.run cfg.G (S n) d16.fn vs h := rfl
theorem t_lost (n : Nat) (v : D) (l : List Int) (h : Hh) (q : SeqV h v (zs l)) (hn : Nice l) (hl : l.length ≤ 1000) : ∃ d, (S (n+4)).fn 16 [v] h = some (d, h) ∧ Fr d (lost l) := by
  obtain ⟨g, i1, i2⟩ := q.it
  obtain ⟨s', e2, d', o', rfl, j⟩ := fo_rest (G := cfg.G) (cs := S (n + 3)) (it := .seq (.var 0)) (t := .nm 2) (b := .cons (.asg (.nm 1) (.call 6 (.cons (.var 1) (.cons (.call 4 (.cons (.bin .sub (.var 2) (.con (.int 1))) (.cons (.var 2) .nil))) .nil)))) .nil) (s := [some v, some (.tup [.int 0, .int 1]), none]) (h := h) (h1 := h) (xs := zs l) (g := g) (evI_seq rfl i1)
    (fun xs s => ∃ d o, s = [some v, some d, o] ∧ ∃ (k : List Int) (B : Int), xs = zs k ∧ Nice k ∧ Fr d B ∧ 0 ≤ B ∧ B + 14280 * k.length ≤ 14280 * l.length ∧ B + lost k = lost l) i2 (fun x xs s js => by
      obtain ⟨d, o, rfl, k, B, hx, nk, fd, b0, b1, b2⟩ := js
      cases k with
      | nil => exact absurd hx (by simp [zs])
      | cons m k =>
        rw [zs_cons] at hx
        obtain ⟨rfl, rfl⟩ := List.cons.inj hx
        obtain ⟨m1, m2, m3⟩ := nk m List.mem_cons_self
        have hw := wt_b m1
        obtain ⟨e, t1, t2⟩ := t_low (n+2) (m - 1) m (wt m) h (by omega) (by omega) (by
          unfold wt
          have : (14280 - 14280 / m) * m = 14280 * m - m * (14280 / m) := by rw [Int.sub_mul, Int.mul_comm (14280 / m) m]
          rw [this, m3]
          omega)
        simp only [List.length_cons] at b1
        obtain ⟨f, u1, u2⟩ := t_added n d e B (wt m) h (.inl fd) (.inl t2) (by omega) (by omega)
        refine ⟨[some v, some d, some (.int m)], [some v, some f, some (.int m)], by simp [Z.run, exs, ex.eq_1, ex.eq_2, ex.eq_3, ex.eq_4, ex.eq_5, ex.eq_6, ex.eq_7, ex.eq_8, ex.eq_9, ex.eq_10, ev.eq_1, ev.eq_2, ev.eq_3, ev.eq_4, ev.eq_5, ev.eq_6, ev.eq_7, ev.eq_8, ev.eq_9, ev.eq_10, ev.eq_11, ev.eq_12, ev.eq_13, ev.eq_14, ev.eq_15, ev.eq_16, ev.eq_17, ev.eq_18, ev.eq_19, ev.eq_22, ev.eq_23, evs, evT, evI, st, sts, prim1, prim2, primN, startD, truth_bl, truth_int, truth_non, ixD, seqOf, itSeq, tyD, newL, line, keyOf, kget, gOk, wipeD, allBls, allInts, atI, ixN, gc_pre, gc_same, gcb1, gcb2, gci1, gci2, gcn1, gcn2, gcs1, gcs2, below_bl, below_int, below_non, below_str, below_tup, below_gd, belows, eqP_int, get_last, set_last, enumD], ?_, f, _, rfl, k, B + wt m, rfl, fun y hy => nk y (List.mem_cons_of_mem _ hy), u2, by omega, by omega, ?_⟩
        · simp [Z.run, exs, ex.eq_1, ex.eq_2, ex.eq_3, ex.eq_4, ex.eq_5, ex.eq_6, ex.eq_7, ex.eq_8, ex.eq_9, ex.eq_10, ev.eq_1, ev.eq_2, ev.eq_3, ev.eq_4, ev.eq_5, ev.eq_6, ev.eq_7, ev.eq_8, ev.eq_9, ev.eq_10, ev.eq_11, ev.eq_12, ev.eq_13, ev.eq_14, ev.eq_15, ev.eq_16, ev.eq_17, ev.eq_18, ev.eq_19, ev.eq_22, ev.eq_23, evs, evT, evI, st, sts, prim1, prim2, primN, startD, truth_bl, truth_int, truth_non, ixD, seqOf, itSeq, tyD, newL, line, keyOf, kget, gOk, wipeD, allBls, allInts, atI, ixN, gc_pre, gc_same, gcb1, gcb2, gci1, gci2, gcn1, gcn2, gcs1, gcs2, below_bl, below_int, below_non, below_str, below_tup, below_gd, belows, eqP_int, get_last, set_last, enumD, t1, u1]
        · rw [← b2]
          simp only [lost, List.map_cons, List.sum_cons]
          omega) ⟨_, _, rfl, l, 0, rfl, hn, ⟨0, 1, rfl, by omega, rfl, by omega⟩, by omega, by omega, by omega⟩
  obtain ⟨k, B, hk, _, fd, _, _, hB⟩ := j
  have hk0 : k = [] := by
    cases k with
    | nil => rfl
    | cons _ _ => exact absurd hk (by simp [zs])
  subst hk0
  have hB2 : B = lost l := by
    rw [← hB]
    simp [lost]
  subst hB2
  have hb : below h.length d' = true := by
    obtain ⟨a, b, rfl, _⟩ := fd
    rfl
  refine ⟨d', ?_, fd⟩
  rw [fn16]
  simp only [d16, DefT.fn, ir16]
  exact run_rt rfl (exs_nx (s2 := [some v, some (.tup [.int 0, .int 1]), none]) (h2 := h) (by simp [Z.run, exs, ex.eq_1, ex.eq_2, ex.eq_3, ex.eq_4, ex.eq_5, ex.eq_6, ex.eq_7, ex.eq_8, ex.eq_9, ex.eq_10, ev.eq_1, ev.eq_2, ev.eq_3, ev.eq_4, ev.eq_5, ev.eq_6, ev.eq_7, ev.eq_8, ev.eq_9, ev.eq_10, ev.eq_11, ev.eq_12, ev.eq_13, ev.eq_14, ev.eq_15, ev.eq_16, ev.eq_17, ev.eq_18, ev.eq_19, ev.eq_22, ev.eq_23, evs, evT, evI, st, sts, prim1, prim2, primN, startD, truth_bl, truth_int, truth_non, ixD, seqOf, itSeq, tyD, newL, line, keyOf, kget, gOk, wipeD, allBls, allInts, atI, ixN, gc_pre, gc_same, gcb1, gcb2, gci1, gci2, gcn1, gcn2, gcs1, gcs2, below_bl, below_int, below_non, below_str, below_tup, below_gd, belows, eqP_int, get_last, set_last, enumD]) (exs_nx e2 (exs_rt (ex_ret (ev_var rfl))))) (gc_same hb)
end K14
end

-- M12
section
set_option Elab.async false
set_option linter.all false
set_option maxRecDepth 100000
set_option maxHeartbeats 1000000
namespace K14
open PySem L2 Z
theorem fn15 (n vs h) : (S (n+1)).fn 15 vs h = Z.run cfg.G (S n) d15.fn vs h := rfl
theorem fn35 (n vs h) : (S (n+1)).fn 35 vs h = Z.run cfg.G (S n) d35.fn vs h := rfl
theorem fn36 (n vs h) : (S (n+1)).fn 36 vs h = Z.run cfg.G (S n) d36.fn vs h := rfl
/-- a full lies there -/
def FullAt (h : Hh) (m : Nat) (hd cp : Int) (k : List Int) (ms : List (List Int)) : Prop := h[m]? = some (fullO hd cp k ms)
theorem FullAt.app {h t : Hh} {m : Nat} {hd cp : Int} {k : List Int} {ms : List (List Int)} (q : FullAt h m hd cp k ms) : FullAt (h ++ t) m hd cp k ms := app_at q
theorem t_needfull (n : Nat) (p : Str) (m : Nat) (hd cp : Int) (k : List Int) (ms : List (List Int)) (h : Hh) (q : FullAt h m hd cp k ms) : (S (n+1)).fn 15 [.str p, .ref m] h = some (.non, h) := by
  have q' : h[m]? = some (fullO hd cp k ms) := q
  rw [fn15]
  simp [Z.run, exs, ex.eq_1, ex.eq_2, ex.eq_3, ex.eq_4, ex.eq_5, ex.eq_6, ex.eq_7, ex.eq_8, ex.eq_9, ex.eq_10, ev.eq_1, ev.eq_2, ev.eq_3, ev.eq_4, ev.eq_5, ev.eq_6, ev.eq_7, ev.eq_8, ev.eq_9, ev.eq_10, ev.eq_11, ev.eq_12, ev.eq_13, ev.eq_14, ev.eq_15, ev.eq_16, ev.eq_17, ev.eq_18, ev.eq_19, ev.eq_22, ev.eq_23, evs, evT, evI, st, sts, prim1, prim2, primN, startD, truth_bl, truth_int, truth_non, ixD, seqOf, itSeq, tyD, newL, line, keyOf, kget, gOk, wipeD, allBls, allInts, atI, ixN, gc_pre, gc_same, gcb1, gcb2, gci1, gci2, gcn1, gcn2, gcs1, gcs2, below_bl, below_int, below_non, below_str, below_tup, below_gd, belows, eqP_int, get_last, set_last, enumD, d15, DefT.fn, ir15, q', fullO]
theorem t_two (n : Nat) (m : Nat) (hd cp : Int) (k : List Int) (ms : List (List Int)) (h : Hh) (q : FullAt h m hd cp k ms) : (S (n+1)).fn 35 [.ref m] h = some (.bl (cp == 0), h) := by
  have q' : h[m]? = some (fullO hd cp k ms) := q
  have hf : cfg.G.fld 0 7 = true := rfl
  rw [fn35]
  simp [Z.run, exs, ex.eq_1, ex.eq_2, ex.eq_3, ex.eq_4, ex.eq_5, ex.eq_6, ex.eq_7, ex.eq_8, ex.eq_9, ex.eq_10, ev.eq_1, ev.eq_2, ev.eq_3, ev.eq_4, ev.eq_5, ev.eq_6, ev.eq_7, ev.eq_8, ev.eq_9, ev.eq_10, ev.eq_11, ev.eq_12, ev.eq_13, ev.eq_14, ev.eq_15, ev.eq_16, ev.eq_17, ev.eq_18, ev.eq_19, ev.eq_22, ev.eq_23, evs, evT, evI, st, sts, prim1, prim2, primN, startD, truth_bl, truth_int, truth_non, ixD, seqOf, itSeq, tyD, newL, line, keyOf, kget, gOk, wipeD, allBls, allInts, atI, ixN, gc_pre, gc_same, gcb1, gcb2, gci1, gci2, gcn1, gcn2, gcs1, gcs2, below_bl, below_int, below_non, below_str, below_tup, below_gd, belows, eqP_int, get_last, set_last, enumD, d35, DefT.fn, ir35, q', fullO, hf]
theorem t_euler (n : Nat) (m : Nat) (hd cp : Int) (k : List Int) (ms : List (List Int)) (h : Hh) (q : FullAt h m hd cp k ms) (b1 : 0 ≤ hd ∧ hd ≤ 60) : (S (n+1)).fn 36 [.ref m] h = some (.int (2 - 2 * hd - cp - (ms.length : Int)), h) := by
  have q' : h[m]? = some (fullO hd cp k ms) := q
  have hf : cfg.G.fld 0 7 = true := rfl
  have hf6 : cfg.G.fld 0 6 = true := rfl
  have hf9 : cfg.G.fld 0 9 = true := rfl
  have hm : mulOk 2 hd = true := mulOk_of (by omega) (by omega)
  rw [fn36]
  simp [Z.run, exs, ex.eq_1, ex.eq_2, ex.eq_3, ex.eq_4, ex.eq_5, ex.eq_6, ex.eq_7, ex.eq_8, ex.eq_9, ex.eq_10, ev.eq_1, ev.eq_2, ev.eq_3, ev.eq_4, ev.eq_5, ev.eq_6, ev.eq_7, ev.eq_8, ev.eq_9, ev.eq_10, ev.eq_11, ev.eq_12, ev.eq_13, ev.eq_14, ev.eq_15, ev.eq_16, ev.eq_17, ev.eq_18, ev.eq_19, ev.eq_22, ev.eq_23, evs, evT, evI, st, sts, prim1, prim2, primN, startD, truth_bl, truth_int, truth_non, ixD, seqOf, itSeq, tyD, newL, line, keyOf, kget, gOk, wipeD, allBls, allInts, atI, ixN, gc_pre, gc_same, gcb1, gcb2, gci1, gci2, gcn1, gcn2, gcs1, gcs2, below_bl, below_int, below_non, below_str, below_tup, below_gd, belows, eqP_int, get_last, set_last, enumD, d36, DefT.fn, ir36, q', fullO, hf, hf6, hf9, hm]
end K14
end

-- M13
section
set_option Elab.async false
set_option linter.all false
set_option maxRecDepth 100000
set_option maxHeartbeats 1000000
namespace K14
open PySem L2 Z
theorem lcO_rows {body : D → Hh → Option Hh} {g : Gd} {h : Hh} (hg : gOk g h = true) : ∀ (rs : List (List Int)) (acc : List Int), (∀ r ∈ rs, ∀ acc : List Int, acc.length + r.length ≤ Z.line → body (row r) (h ++ [.lst (zs acc)]) = some (h ++ [.lst (zs (acc ++ r))])) → acc.length + rs.flatten.length ≤ Z.line → lcO body g (rs.map row) (h ++ [.lst (zs acc)]) = some (h ++ [.lst (zs (acc ++ rs.flatten))])
  | [], acc, hb, hl => by simp [lcO, gOk_app hg]
  | r :: rs, acc, hb, hl => by
    simp only [List.flatten_cons, List.length_append] at hl
    rw [List.map_cons]
    simp only [lcO, gOk_app hg, if_true]
    rw [hb r List.mem_cons_self acc (by omega)]
    have := lcO_rows hg rs (acc ++ r) (fun q hq => hb q (List.mem_cons_of_mem _ hq)) (by simp only [List.length_append]; omega)
    simp only [this, List.flatten_cons, List.append_assoc]
theorem lcGo_row {body : D → Hh → Option (Option D × Hh)} {h : Hh} {r acc : List Int} (hb : ∀ x ∈ zs r, ∀ a, body x (h ++ [.lst a]) = some (some x, h ++ [.lst a])) (hl : acc.length + r.length ≤ Z.line) : lcGo body [] h.length (zs r) (h ++ [.lst (zs acc)]) = some (h ++ [.lst (zs (acc ++ r))]) := by
  rw [lcGo_pure (f := some) hb rfl (by simpa [zs_len] using hl)]
  simp [zs_app]
theorem ev_flat {cs : CS} {m : Nat} {hd cp : Int} {k : List Int} {ms : List (List Int)} {h : Hh} {a b c : Option D} (q : FullAt h m hd cp k ms) (hl : ms.flatten.length ≤ 1000) : ev cfg.G cs (.lc2 (.seq (.fld 9 (.var 0))) (.nm 2) (.seq (.var 2)) (.nm 3) (.var 3) [2, 3] [3]) [some (.ref m), a, b, c] h = some (.ref h.length, h ++ [.lst (zs ms.flatten)]) := by
  have q' : h[m]? = some (fullO hd cp k ms) := q
  have hf9 : cfg.G.fld 0 9 = true := rfl
  have e1 : evI cfg.G cs (.seq (.fld 9 (.var 0))) [some (.ref m), a, b, c] h = some (ms.map row, [], h) := by
    simp [Z.run, exs, ex.eq_1, ex.eq_2, ex.eq_3, ex.eq_4, ex.eq_5, ex.eq_6, ex.eq_7, ex.eq_8, ex.eq_9, ex.eq_10, ev.eq_1, ev.eq_2, ev.eq_3, ev.eq_4, ev.eq_5, ev.eq_6, ev.eq_7, ev.eq_8, ev.eq_9, ev.eq_10, ev.eq_11, ev.eq_12, ev.eq_13, ev.eq_14, ev.eq_15, ev.eq_16, ev.eq_17, ev.eq_18, ev.eq_19, ev.eq_22, ev.eq_23, evs, evT, evI, st, sts, prim1, prim2, primN, startD, truth_bl, truth_int, truth_non, ixD, seqOf, itSeq, tyD, newL, line, keyOf, kget, gOk, wipeD, allBls, allInts, atI, ixN, gc_pre, gc_same, gcb1, gcb2, gci1, gci2, gcn1, gcn2, gcs1, gcs2, below_bl, below_int, below_non, below_str, below_tup, below_gd, belows, eqP_int, get_last, set_last, enumD, q', fullO, hf9]
  have e3 : ∀ body : D → Hh → Option Hh, (∀ r ∈ ms, ∀ acc : List Int, acc.length + r.length ≤ Z.line → body (row r) (h ++ [.lst (zs acc)]) = some (h ++ [.lst (zs (acc ++ r))])) → lcO body [] (ms.map row) (h ++ [.lst []]) = some (h ++ [.lst (zs ms.flatten)]) := fun body hb => by
    have e2 := lcO_rows (h := h) (g := []) (body := body) rfl ms [] hb (by
      unfold Z.line
      rw [List.length_nil]
      omega)
    rw [List.nil_append] at e2
    exact e2
  simp only [ev, e1]
  rw [e3]
  intro r _ acc hacc
  simp [Z.run, exs, ex.eq_1, ex.eq_2, ex.eq_3, ex.eq_4, ex.eq_5, ex.eq_6, ex.eq_7, ex.eq_8, ex.eq_9, ex.eq_10, ev.eq_1, ev.eq_2, ev.eq_3, ev.eq_4, ev.eq_5, ev.eq_6, ev.eq_7, ev.eq_8, ev.eq_9, ev.eq_10, ev.eq_11, ev.eq_12, ev.eq_13, ev.eq_14, ev.eq_15, ev.eq_16, ev.eq_17, ev.eq_18, ev.eq_19, ev.eq_22, ev.eq_23, evs, evT, evI, st, sts, prim1, prim2, primN, startD, truth_bl, truth_int, truth_non, ixD, seqOf, itSeq, tyD, newL, line, keyOf, kget, gOk, wipeD, allBls, allInts, atI, ixN, gc_pre, gc_same, gcb1, gcb2, gci1, gci2, gcn1, gcn2, gcs1, gcs2, below_bl, below_int, below_non, below_str, below_tup, below_gd, belows, eqP_int, get_last, set_last, enumD]
  exact lcGo_row (fun x hx a => rfl) hacc
end K14
end

-- M14
section
set_option Elab.async false
set_option linter.all false
set_option maxRecDepth 100000
set_option maxHeartbeats 1000000
namespace K14
open PySem L2 Z
theorem fn17 (n vs h) : (S (n+1)).fn 17 vs h = Z.run cfg.G (S n) d17.fn vs h := rfl
theorem lost_b : ∀ {l : List Int}, Nice l → 0 ≤ lost l ∧ lost l ≤ 14280 * (l.length : Int)
  | [], _ => by simp [lost]
  | m :: l, hn => by
    have h1 := lost_b (l := l) fun y hy => hn y (List.mem_cons_of_mem _ hy)
    have h2 := wt_b (hn m List.mem_cons_self).1
    have e : lost (m :: l) = wt m + lost l := rfl
    rw [e, List.length_cons]
    omega
theorem t_balance (n m : Nat) (hd cp : Int) (k : List Int) (ms : List (List Int)) (h : Hh) (q : FullAt h m hd cp k ms) (n1 : Nice k) (n2 : Nice ms.flatten) (l1 : k.length ≤ 1000) (l2 : ms.flatten.length ≤ 1000) (l3 : ms.length ≤ 1000) (b1 : 0 ≤ hd ∧ hd ≤ 60) (b2 : 0 ≤ cp ∧ cp ≤ 60) :
    ∃ d, (S (n+5)).fn 17 [.ref m] h = some (d, h) ∧ Fr d (2 * (2 - 2 * hd - cp - (ms.length : Int)) * 14280 - (2 * lost k + lost ms.flatten)) := by
  have a1 := t_needfull (n+3) "full" m hd cp k ms h q
  have a2 := ev_flat (cs := S (n+4)) (a := none) (b := none) (c := none) q l2
  obtain ⟨d1, a3, f1⟩ := t_lost n (.ref h.length) ms.flatten (h ++ [.lst (zs ms.flatten)]) (.inr ⟨_, rfl, get_last⟩) n2 l2
  obtain ⟨h1, hh1⟩ : ∃ h1, h1 = h ++ [.lst (zs ms.flatten)] := ⟨_, rfl⟩
  rw [← hh1] at a2 a3
  have q1 : FullAt h1 m hd cp k ms := by
    rw [hh1]
    exact q.app
  have q1' : h1[m]? = some (fullO hd cp k ms) := q1
  have w1 := lost_b n1
  have w2 := lost_b n2
  have a4 := t_euler (n+3) m hd cp k ms h1 q1 b1
  obtain ⟨d2, a5, f2⟩ := t_lost n (row k) k h1 (.inl rfl) n1 l1
  obtain ⟨d3, a6, f3⟩ := t_twice (n+1) d2 (lost k) h1 f2 (by omega)
  obtain ⟨d4, a7, f4⟩ := t_added (n+1) d3 d1 (2 * lost k) (lost ms.flatten) h1 (.inl f3) (.inl f1) (by omega) (by omega)
  obtain ⟨d5, a8, f5⟩ := t_less (n+1) (.int (2 * (2 - 2 * hd - cp - (ms.length : Int)))) d4 (2 * (2 - 2 * hd - cp - (ms.length : Int)) * 14280) (2 * lost k + lost ms.flatten) h1 (.inr ⟨_, rfl, by omega⟩) (.inl f4) (by omega) (by omega)
  refine ⟨d5, ?_, f5⟩
  have hf8 : cfg.G.fld 0 8 = true := rfl
  have hm1 : cfg.G.mth 0 1 = some 36 := rfl
  have hmul : mulOk 2 (2 - 2 * hd - cp - (ms.length : Int)) = true := mulOk_of (by omega) (by omega)
  have hb : below h.length d5 = true := by
    obtain ⟨a, b, rfl, _⟩ := f5
    rfl
  have x1 : ex cfg.G (S (n+4)) (.exp (.call 15 (.cons (.con (.str "full")) (.cons (.var 0) .nil)))) [some (.ref m), none, none, none] h = some (.nx [some (.ref m), none, none, none] h) := by
    simp [Z.run, exs, ex.eq_1, ex.eq_2, ex.eq_3, ex.eq_4, ex.eq_5, ex.eq_6, ex.eq_7, ex.eq_8, ex.eq_9, ex.eq_10, ev.eq_1, ev.eq_2, ev.eq_3, ev.eq_4, ev.eq_5, ev.eq_6, ev.eq_7, ev.eq_8, ev.eq_9, ev.eq_10, ev.eq_11, ev.eq_12, ev.eq_13, ev.eq_14, ev.eq_15, ev.eq_16, ev.eq_17, ev.eq_18, ev.eq_19, ev.eq_22, ev.eq_23, evs, evT, evI, st, sts, prim1, prim2, primN, startD, truth_bl, truth_int, truth_non, ixD, seqOf, itSeq, tyD, newL, line, keyOf, kget, gOk, wipeD, allBls, allInts, atI, ixN, gc_pre, gc_same, gcb1, gcb2, gci1, gci2, gcn1, gcn2, gcs1, gcs2, below_bl, below_int, below_non, below_str, below_tup, below_gd, belows, eqP_int, get_last, set_last, enumD, a1]
  have x2 : ex cfg.G (S (n+4)) (.asg (.nm 1) (.call 16 (.cons (.lc2 (.seq (.fld 9 (.var 0))) (.nm 2) (.seq (.var 2)) (.nm 3) (.var 3) [2, 3] [3]) .nil))) [some (.ref m), none, none, none] h = some (.nx [some (.ref m), some d1, none, none] h1) := by
    simp only [ex, ev_call1 a2 a3]
    simp [st]
  have x3 : ex cfg.G (S (n+4)) (.ret (.call 7 (.cons (.bin .mul (.con (.int 2)) (.umt 1 (.var 0) .nil)) (.cons (.call 6 (.cons (.call 8 (.cons (.con (.int 2)) (.cons (.call 16 (.cons (.fld 8 (.var 0)) .nil)) .nil))) (.cons (.var 1) .nil))) .nil)))) [some (.ref m), some d1, none, none] h1 = some (.rt d5 h1) := by
    simp [Z.run, exs, ex.eq_1, ex.eq_2, ex.eq_3, ex.eq_4, ex.eq_5, ex.eq_6, ex.eq_7, ex.eq_8, ex.eq_9, ex.eq_10, ev.eq_1, ev.eq_2, ev.eq_3, ev.eq_4, ev.eq_5, ev.eq_6, ev.eq_7, ev.eq_8, ev.eq_9, ev.eq_10, ev.eq_11, ev.eq_12, ev.eq_13, ev.eq_14, ev.eq_15, ev.eq_16, ev.eq_17, ev.eq_18, ev.eq_19, ev.eq_22, ev.eq_23, evs, evT, evI, st, sts, prim1, prim2, primN, startD, truth_bl, truth_int, truth_non, ixD, seqOf, itSeq, tyD, newL, line, keyOf, kget, gOk, wipeD, allBls, allInts, atI, ixN, gc_pre, gc_same, gcb1, gcb2, gci1, gci2, gcn1, gcn2, gcs1, gcs2, below_bl, below_int, below_non, below_str, below_tup, below_gd, belows, eqP_int, get_last, set_last, enumD, q1', fullO, hf8, hm1, a4, a5, a6, a7, a8, hmul, kget]
  rw [fn17]
  simp only [d17, DefT.fn, ir17]
  exact run_rt rfl (exs_nx x1 (exs_nx x2 (exs_rt x3))) (by
    rw [hh1]
    exact gc_pre hb)
end K14
end

-- M15
section
set_option Elab.async false
set_option linter.all false
set_option maxRecDepth 100000
set_option maxHeartbeats 1000000
namespace K14
open PySem L2 Z
theorem fn18 (n vs h) : (S (n+1)).fn 18 vs h = Z.run cfg.G (S n) d18.fn vs h := rfl
/-- the balance of a full, in parts of 14280 -/
def bal (hd cp : Int) (k : List Int) (ms : List (List Int)) : Int := 2 * (2 - 2 * hd - cp - (ms.length : Int)) * 14280 - (2 * lost k + lost ms.flatten)
def kindS (b : Int) : Str := if b < 0 then "wild" else if b = 0 then "flat" else "round"
theorem t_kind (n m : Nat) (hd cp : Int) (k : List Int) (ms : List (List Int)) (h : Hh) (q : FullAt h m hd cp k ms) (n1 : Nice k) (n2 : Nice ms.flatten) (l1 : k.length ≤ 1000) (l2 : ms.flatten.length ≤ 1000) (l3 : ms.length ≤ 1000) (b1 : 0 ≤ hd ∧ hd ≤ 60) (b2 : 0 ≤ cp ∧ cp ≤ 60) :
    (S (n+6)).fn 18 [.ref m] h = some (.str (kindS (bal hd cp k ms)), h) := by
  obtain ⟨d, a1, f1⟩ := t_balance n m hd cp k ms h q n1 n2 l1 l2 l3 b1 b2
  have w1 := lost_b n1
  have w2 := lost_b n2
  have a2 := t_order (n+2) d (bal hd cp k ms) h f1 (by
    unfold bal
    omega)
  have g4 : cfg.G.glo 4 = .gd 0 := rfl
  have r1 : ixD cfg.G h (.gd 0) (.int (-1)) = some (.str "wild") := rfl
  have r2 : ixD cfg.G h (.gd 0) (.int 0) = some (.str "flat") := rfl
  have r3 : ixD cfg.G h (.gd 0) (.int 1) = some (.str "round") := rfl
  have r : ixD cfg.G h (.gd 0) (.int (sg (bal hd cp k ms))) = some (.str (kindS (bal hd cp k ms))) := by
    unfold sg kindS
    by_cases c1 : 0 < bal hd cp k ms
    · have c2 : ¬ bal hd cp k ms < 0 := by omega
      have c3 : ¬ bal hd cp k ms = 0 := by omega
      simp only [c1, c2, c3, if_true, if_false, r3]
    · by_cases c2 : bal hd cp k ms < 0
      · simp only [c1, c2, if_true, if_false, r1]
      · have c3 : bal hd cp k ms = 0 := by omega
        simp only [c1, c2, c3, if_true, if_false, r2]
        simp [r2]
  have x : ev cfg.G (S (n+5)) (.bin .ix (.glo 4) (.call 9 (.cons (.call 17 (.cons (.var 0) .nil)) (.cons (.con (.int 0)) .nil)))) [some (.ref m)] h = some (.str (kindS (bal hd cp k ms)), h) := by
    simp only [ev, evs, List.getElem?_cons_zero, a1, a2, g4, prim2, r]
  rw [fn18]
  simp only [d18, DefT.fn, ir18]
  exact run_rt rfl (exs_rt (ex_ret x)) (gc_same rfl)
end K14
end

-- M16
section
set_option Elab.async false
set_option linter.all false
set_option maxRecDepth 100000
set_option maxHeartbeats 1000000
namespace K14
open PySem L2 Z
theorem fn40 (n vs h) : (S (n+1)).fn 40 vs h = Z.run cfg.G (S n) d40.fn vs h := rfl
def big (l : List Int) : List Int := l.filter fun i => decide (1 < i)
theorem big_fm (l : List Int) : (zs l).filterMap (fun x => match x with
    | .int i => if 1 < i then some (.int i) else none
    | _ => none) = zs (big l) := by
  induction l with
  | nil => rfl
  | cons i l ih =>
    rw [zs_cons]
    by_cases c : 1 < i
    · simp only [List.filterMap_cons, c, if_true, ih, big, List.filter_cons, decide_true]
      rfl
    · simp only [List.filterMap_cons, c, if_false, ih, big, List.filter_cons, decide_false]
      rfl
theorem ev_big {cs : CS} {it : Z.It} {a b c d : Option D} {l : List Int} {g : Gd} {h h1 : Hh} (hi : evI cfg.G cs it [a, b, c, d] h = some (zs l, g, h1)) (hg : gOk g h1 = true) (hl : l.length ≤ 1000) : ev cfg.G cs (.lc it (.nm 2) (.val (.bin .gt (.var 2) (.con (.int 1)))) (.var 2) [2]) [a, b, c, d] h = some (.ref h1.length, h1 ++ [.lst (zs (big l))]) := by
  have e1 := ev_lc (G := cfg.G) (cs := cs) (it := it) (t := .nm 2) (ifs := .val (.bin .gt (.var 2) (.con (.int 1)))) (e := .var 2) (own := [2]) (s := [a, b, c, d]) (h := h) (h1 := h1) (xs := zs l) (g := g)
    (f := fun x => match x with
    | .int i => if 1 < i then some (.int i) else none
    | _ => none) hi (fun x hx acc => by
      obtain ⟨i, _, rfl⟩ := zs_mem hx
      refine ⟨[a, b, some (.int i), d], by simp [Z.run, exs, ex.eq_1, ex.eq_2, ex.eq_3, ex.eq_4, ex.eq_5, ex.eq_6, ex.eq_7, ex.eq_8, ex.eq_9, ex.eq_10, ev.eq_1, ev.eq_2, ev.eq_3, ev.eq_4, ev.eq_5, ev.eq_6, ev.eq_7, ev.eq_8, ev.eq_9, ev.eq_10, ev.eq_11, ev.eq_12, ev.eq_13, ev.eq_14, ev.eq_15, ev.eq_16, ev.eq_17, ev.eq_18, ev.eq_19, ev.eq_22, ev.eq_23, evs, evT, evI, st, sts, prim1, prim2, primN, startD, truth_bl, truth_int, truth_non, ixD, seqOf, itSeq, tyD, newL, line, keyOf, kget, gOk, wipeD, allBls, allInts, atI, ixN, gc_pre, gc_same, gcb1, gcb2, gci1, gci2, gcn1, gcn2, gcs1, gcs2, below_bl, below_int, below_non, below_str, below_tup, below_gd, belows, eqP_int, get_last, set_last, enumD], ?_⟩
      by_cases q : 1 < i
      · exact .inl ⟨.int i, by simp [Z.run, exs, ex.eq_1, ex.eq_2, ex.eq_3, ex.eq_4, ex.eq_5, ex.eq_6, ex.eq_7, ex.eq_8, ex.eq_9, ex.eq_10, ev.eq_1, ev.eq_2, ev.eq_3, ev.eq_4, ev.eq_5, ev.eq_6, ev.eq_7, ev.eq_8, ev.eq_9, ev.eq_10, ev.eq_11, ev.eq_12, ev.eq_13, ev.eq_14, ev.eq_15, ev.eq_16, ev.eq_17, ev.eq_18, ev.eq_19, ev.eq_22, ev.eq_23, evs, evT, evI, st, sts, prim1, prim2, primN, startD, truth_bl, truth_int, truth_non, ixD, seqOf, itSeq, tyD, newL, line, keyOf, kget, gOk, wipeD, allBls, allInts, atI, ixN, gc_pre, gc_same, gcb1, gcb2, gci1, gci2, gcn1, gcn2, gcs1, gcs2, below_bl, below_int, below_non, below_str, below_tup, below_gd, belows, eqP_int, get_last, set_last, enumD, q], by simp [Z.run, exs, ex.eq_1, ex.eq_2, ex.eq_3, ex.eq_4, ex.eq_5, ex.eq_6, ex.eq_7, ex.eq_8, ex.eq_9, ex.eq_10, ev.eq_1, ev.eq_2, ev.eq_3, ev.eq_4, ev.eq_5, ev.eq_6, ev.eq_7, ev.eq_8, ev.eq_9, ev.eq_10, ev.eq_11, ev.eq_12, ev.eq_13, ev.eq_14, ev.eq_15, ev.eq_16, ev.eq_17, ev.eq_18, ev.eq_19, ev.eq_22, ev.eq_23, evs, evT, evI, st, sts, prim1, prim2, primN, startD, truth_bl, truth_int, truth_non, ixD, seqOf, itSeq, tyD, newL, line, keyOf, kget, gOk, wipeD, allBls, allInts, atI, ixN, gc_pre, gc_same, gcb1, gcb2, gci1, gci2, gcn1, gcn2, gcs1, gcs2, below_bl, below_int, below_non, below_str, below_tup, below_gd, belows, eqP_int, get_last, set_last, enumD], by simp [q]⟩
      · exact .inr ⟨by simp [Z.run, exs, ex.eq_1, ex.eq_2, ex.eq_3, ex.eq_4, ex.eq_5, ex.eq_6, ex.eq_7, ex.eq_8, ex.eq_9, ex.eq_10, ev.eq_1, ev.eq_2, ev.eq_3, ev.eq_4, ev.eq_5, ev.eq_6, ev.eq_7, ev.eq_8, ev.eq_9, ev.eq_10, ev.eq_11, ev.eq_12, ev.eq_13, ev.eq_14, ev.eq_15, ev.eq_16, ev.eq_17, ev.eq_18, ev.eq_19, ev.eq_22, ev.eq_23, evs, evT, evI, st, sts, prim1, prim2, primN, startD, truth_bl, truth_int, truth_non, ixD, seqOf, itSeq, tyD, newL, line, keyOf, kget, gOk, wipeD, allBls, allInts, atI, ixN, gc_pre, gc_same, gcb1, gcb2, gci1, gci2, gcn1, gcn2, gcs1, gcs2, below_bl, below_int, below_non, below_str, below_tup, below_gd, belows, eqP_int, get_last, set_last, enumD, q], by simp [q]⟩) hg (by
      rw [zs_len]
      unfold Z.line
      omega)
  rw [big_fm] at e1
  exact e1
end K14
end

-- M17
section
set_option Elab.async false
set_option linter.all false
set_option maxRecDepth 100000
set_option maxHeartbeats 1000000
namespace K14
open PySem L2 Z
/-- names of n new things from a on -/
def refs (a : Nat) : Nat → List D
  | 0 => []
  | n + 1 => .ref a :: refs (a + 1) n
/-- a comprehension that makes one new thing each turn -/
theorem lcGo_new {body : D → Hh → Option (Option D × Hh)} {g : Gd} {h : Hh} {f : D → O} (hg : ∀ t, gOk g (h ++ t) = true) : ∀ (xs : List D) (acc : List D) (t : Hh), (∀ x ∈ xs, ∀ acc t, body x (h ++ .lst acc :: t) = some (some (.ref (h.length + 1 + t.length)), h ++ .lst acc :: (t ++ [f x]))) → acc.length + xs.length ≤ Z.line →
    lcGo body g h.length xs (h ++ .lst acc :: t) = some (h ++ .lst (acc ++ refs (h.length + 1 + t.length) xs.length) :: (t ++ xs.map f))
  | [], acc, t, hb, hl => by simp [lcGo, hg, refs]
  | x :: xs, acc, t, hb, hl => by
    simp only [List.length_cons] at hl
    simp only [lcGo, hg, if_true]
    rw [hb x List.mem_cons_self]
    simp only [get_mid, set_mid]
    rw [if_pos (by omega), lcGo_new hg xs _ _ (fun y hy => hb y (List.mem_cons_of_mem _ hy)) (by simp only [List.length_append, List.length_cons, List.length_nil]; omega)]
    simp [refs, Nat.add_assoc]
end K14
end

-- M18
section
set_option Elab.async false
set_option linter.all false
set_option maxRecDepth 100000
set_option maxHeartbeats 1000000
namespace K14
open PySem L2 Z
theorem pwv_refs {h : Hh} : ∀ (rs : List (List Int)) (a : Nat) (t : Hh), h.length = a → PWV (h ++ rs.map (fun r => O.lst (zs r)) ++ t) (refs a rs.length) rs
  | [], a, t, e => .nil
  | r :: rs, a, t, e => by
    refine .cons (.inr ⟨a, rfl, ?_⟩) ?_
    · subst e
      simp
    · have := pwv_refs (h := h ++ [.lst (zs r)]) rs (a + 1) t (by simp [e])
      simpa using this
end K14
end

-- M19
section
set_option Elab.async false
set_option linter.all false
set_option maxRecDepth 100000
set_option maxHeartbeats 1000000
namespace K14
open PySem L2 Z
theorem ev_varset {G : GEnv} {cs : CS} {i : Nat} {s : Sl} {v : D} {h : Hh} (hw : i < s.length) : ev G cs (.var i) (s.set i (some v)) h = some (v, h) := by
  simp [ev, hw]
def bigF : D → Option D
  | .int i => if 1 < i then some (.int i) else none
  | _ => none
theorem bigF_fm (l : List Int) : (zs l).filterMap bigF = zs (big l) := by
  induction l with
  | nil => rfl
  | cons i l ih =>
    rw [zs_cons]
    by_cases c : 1 < i
    · simp only [List.filterMap_cons, bigF, c, if_true, ih, big, List.filter_cons, decide_true]
      rfl
    · simp only [List.filterMap_cons, bigF, c, if_false, ih, big, List.filter_cons, decide_false]
      rfl
theorem ev_bigG {G : GEnv} {cs : CS} {it : Z.It} {s : Sl} {l : List Int} {g : Gd} {h h1 : Hh} {i : Nat} (hi : evI G cs it s h = some (zs l, g, h1)) (hw : i < s.length) (hg : gOk g h1 = true) (hl : l.length ≤ 1000) : ev G cs (.lc it (.nm i) (.val (.bin .gt (.var i) (.con (.int 1)))) (.var i) [i]) s h = some (.ref h1.length, h1 ++ [.lst (zs (big l))]) := by
  have e1 := ev_lc (G := G) (cs := cs) (it := it) (t := .nm i) (ifs := .val (.bin .gt (.var i) (.con (.int 1)))) (e := .var i) (own := [i]) (s := s) (h := h) (h1 := h1) (xs := zs l) (g := g)
    (f := bigF) hi (fun x hx acc => by
      obtain ⟨n, _, rfl⟩ := zs_mem hx
      refine ⟨s.set i (some (.int n)), by simp [st, wipeD], ?_⟩
      have e := ev_varset (G := G) (cs := cs) (v := .int n) (h := h1 ++ [.lst acc]) hw
      have e2 : ev G cs (.bin .gt (.var i) (.con (.int 1))) (s.set i (some (.int n))) (h1 ++ [.lst acc]) = some (.bl (decide (1 < n)), h1 ++ [.lst acc]) := ev_bin e (by rw [ev.eq_2]) rfl
      have e3 := evT_val e2
      by_cases q : 1 < n
      · exact .inl ⟨.int n, by rw [e3, decide_eq_true q], e, by simp [bigF, q]⟩
      · exact .inr ⟨by rw [e3, decide_eq_false q], by simp [bigF, q]⟩) hg (by
      rw [zs_len]
      unfold Z.line
      omega)
  rw [bigF_fm] at e1
  exact e1
theorem PWV.map {α : Type} {h : Hh} {xs : List D} {ls : List (List Int)} (q : PWV h xs ls) (f : List Int → α) : xs.map (fun x => f (rdz h x)) = ls.map f := by
  induction q with
  | nil => rfl
  | cons q _ ih => rw [List.map_cons, List.map_cons, rdz_eq q, ih]
theorem ev_rimsG {G : GEnv} {cs : CS} {it : Z.It} {s : Sl} {xs : List D} {rs : List (List Int)} {g : Gd} {h h1 : Hh} {i j : Nat} (hi : evI G cs it s h = some (xs, g, h1)) (p : PWV h1 xs rs) (w1 : i < s.length) (w2 : j < s.length) (hg : gOk g h1 = true) (hl : rs.length ≤ 1000) (hr : ∀ r ∈ rs, r.length ≤ 1000) :
    ev G cs (.lc it (.nm j) .yes (.lc (.seq (.var j)) (.nm i) (.val (.bin .gt (.var i) (.con (.int 1)))) (.var i) [i]) [j]) s h = some (.ref h1.length, h1 ++ .lst (refs (h1.length + 1) rs.length) :: rs.map fun r => O.lst (zs (big r))) := by
  rw [ev.eq_20]
  simp only [hi]
  have e3 : ∀ body : D → Hh → Option (Option D × Hh), (∀ x ∈ xs, ∀ acc t, body x (h1 ++ .lst acc :: t) = some (some (.ref (h1.length + 1 + t.length)), h1 ++ .lst acc :: (t ++ [O.lst (zs (big (rdz h1 x)))]))) → lcGo body g h1.length xs (h1 ++ [.lst []]) = some (h1 ++ .lst (refs (h1.length + 1) rs.length) :: rs.map fun r => O.lst (zs (big r))) := fun body hb => by
    have e2 := lcGo_new (h := h1) (g := g) (fun t => gOk_app hg) xs [] [] hb (by
      rw [p.len, List.length_nil]
      unfold Z.line
      omega)
    rw [e2, p.map fun r => O.lst (zs (big r)), p.len]
    simp only [List.nil_append, List.length_nil, Nat.add_zero]
  rw [e3]
  intro x hx acc t
  obtain ⟨r, hr', hq⟩ := p.mem x hx
  obtain ⟨g2, i1, i2⟩ := (hq.app (t := .lst acc :: t)).it
  have e4 := ev_bigG (G := G) (cs := cs) (it := .seq (.var j)) (s := s.set j (some x)) (i := i) (l := r) (h := h1 ++ .lst acc :: t) (h1 := h1 ++ .lst acc :: t) (g := g2) (by
    simp only [evI, ev_varset w2, i1]) (by simpa using w1) i2 (hr r hr')
  rw [rdz_eq hq]
  simp only [st, wipeD, evT, List.set_set, e4]
  simp
  omega
end K14
end

-- M20
section
set_option Elab.async false
set_option linter.all false
set_option maxRecDepth 100000
set_option maxHeartbeats 1000000
namespace K14
open PySem L2 Z
theorem gc_far {h t : Hh} {o : O} (b : belowO h.length o = true) : gc h (.ref (h ++ t).length, h ++ t ++ [o]) = (.ref h.length, h ++ [o]) := by
  have e : stable h.length h (h ++ t ++ [o]) = true := by
    rw [List.append_assoc]
    exact stable_app h _
  have e2 : below h.length (.ref (h ++ t).length) = false := by simp [below]
  unfold gc
  simp only [e, e2, if_true, get_last, b]
  simp
theorem big_le {l : List Int} : (big l).length ≤ l.length := List.length_filter_le _ _
theorem big_mem {l : List Int} {i : Int} (h : i ∈ big l) : i ∈ l ∧ 1 < i := by
  obtain ⟨a, b⟩ := List.mem_filter.mp h
  exact ⟨a, of_decide_eq_true b⟩
theorem sum_big : ∀ rs : List (List Int), ((rs.map big).map fun r => max 1 r.length).sum ≤ (rs.map fun r => max 1 r.length).sum
  | [] => Nat.le_refl _
  | r :: rs => by
    have h1 := sum_big rs
    have h2 : (big r).length ≤ r.length := big_le
    simp only [List.map_cons, List.sum_cons]
    omega
theorem OkF.big {hd cp : Int} {k : List Int} {ms : List (List Int)} (o : OkF hd cp k ms) : OkF hd cp (big k) (ms.map big) where
  hd0 := o.hd0
  hd1 := o.hd1
  cp0 := o.cp0
  cp1 := o.cp1
  one := o.one
  inn := fun i hi => o.inn i (big_mem hi).1
  rim := fun r hr i hi => by
    obtain ⟨q, hq, rfl⟩ := List.mem_map.mp hr
    exact o.rim q hq i (big_mem hi).1
  pts := by
    have h1 := o.pts
    have h2 := sum_big ms
    have h3 : (K14.big k).length ≤ k.length := big_le
    omega
theorem ev_fldF {cs : CS} {i f m : Nat} {s : Sl} {h : Hh} {hd cp : Int} {k : List Int} {ms : List (List Int)} {v : D} (hs : s[i]? = some (some (.ref m))) (q : FullAt h m hd cp k ms) (hk : kget f [(6, .int hd), (7, .int cp), (8, row k), (9, .tup (ms.map row)), (10, .tup [.int hd, .int cp, row k, .tup (ms.map row)])] = some v) (hf : cfg.G.fld 0 f = true) : ev cfg.G cs (.fld f (.var i)) s h = some (v, h) := by
  have q' : h[m]? = some (fullO hd cp k ms) := q
  simp only [ev, hs, q', fullO, hf, hk, if_true]
theorem pwv_rows {h : Hh} : ∀ rs : List (List Int), PWV h (rs.map row) rs
  | [] => .nil
  | r :: rs => .cons (.inl rfl) (pwv_rows rs)
theorem ex_asg {G : GEnv} {cs : CS} {i : Nat} {X : Ex} {s : Sl} {h h1 : Hh} {v : D} (e : ev G cs X s h = some (v, h1)) : ex G cs (.asg (.nm i) X) s h = some (.nx (s.set i (some v)) h1) := by
  simp only [ex, e, st]
theorem fn40' (n vs h) : (S (n+1)).fn 40 vs h = Z.run cfg.G (S n) d40.fn vs h := rfl
theorem t_without (n m : Nat) (hd cp : Int) (k : List Int) (ms : List (List Int)) (h : Hh) (q : FullAt h m hd cp k ms) (o : OkF hd cp k ms) :
    ∃ k' ms', k'.Perm (big k) ∧ Same ms' (ms.map big) ∧ (S (n+7)).fn 40 [.ref m] h = some (.ref h.length, h ++ [fullO hd cp k' ms']) := by
  have hp := o.pts
  obtain ⟨w1, w2⟩ := sum_ge ms
  have a1 := ev_fldF (cs := S (n+6)) (i := 0) (f := 9) (s := [some (.ref m), none, none, none]) rfl q rfl rfl
  have b1 := ev_rimsG (G := cfg.G) (cs := S (n+6)) (it := .seq (.fld 9 (.var 0))) (s := [some (.ref m), none, none, none]) (xs := ms.map row) (rs := ms) (g := []) (h := h) (h1 := h) (i := 2) (j := 3) (by simp only [evI, a1]; rfl) (pwv_rows ms) (by simp) (by simp) rfl (by omega) (fun r hr => by have := w2 r hr; omega)
  obtain ⟨t, ht⟩ : ∃ t : Hh, t = .lst (refs (h.length + 1) ms.length) :: ms.map fun r => O.lst (zs (big r)) := ⟨_, rfl⟩
  rw [← ht] at b1
  have q1 : FullAt (h ++ t) m hd cp k ms := q.app
  have a2 := ev_fldF (cs := S (n+6)) (i := 0) (f := 6) (s := [some (.ref m), some (.ref h.length), none, none]) rfl q1 rfl rfl
  have a3 := ev_fldF (cs := S (n+6)) (i := 0) (f := 7) (s := [some (.ref m), some (.ref h.length), none, none]) rfl q1 rfl rfl
  have a4 := ev_fldF (cs := S (n+6)) (i := 0) (f := 8) (s := [some (.ref m), some (.ref h.length), none, none]) rfl q1 rfl rfl
  have b2 := ev_bigG (G := cfg.G) (cs := S (n+6)) (it := .seq (.fld 8 (.var 0))) (s := [some (.ref m), some (.ref h.length), none, none]) (l := k) (g := []) (h := h ++ t) (h1 := h ++ t) (i := 2) (by simp only [evI, a4]; rfl) (by simp) rfl (by omega)
  have c1 : evs cfg.G (S (n+6)) (.cons (.fld 6 (.var 0)) (.cons (.fld 7 (.var 0)) (.cons (.lc (.seq (.fld 8 (.var 0))) (.nm 2) (.val (.bin .gt (.var 2) (.con (.int 1)))) (.var 2) [2]) (.cons (.var 1) .nil)))) [some (.ref m), some (.ref h.length), none, none] (h ++ t) = some ([.int hd, .int cp, .ref (h ++ t).length, .ref h.length], h ++ t ++ [.lst (zs (big k))]) := by
    have a5 := ev_var (G := cfg.G) (cs := S (n+6)) (k := 1) (s := [some (.ref m), some (.ref h.length), none, none]) (h := h ++ t ++ [O.lst (zs (big k))]) rfl
    simp only [evs, a2, a3, b2, a5]
  have hr : (h ++ t ++ [O.lst (zs (big k))])[h.length]? = some (.lst (refs (h.length + 1) ms.length)) := by
    rw [ht]
    simp
  have pr : PWV (h ++ t ++ [O.lst (zs (big k))]) (refs (h.length + 1) ms.length) (ms.map big) := by
    have := pwv_refs (h := h ++ [.lst (refs (h.length + 1) ms.length)]) (ms.map big) (h.length + 1) [O.lst (zs (big k))] (by simp)
    rw [List.length_map] at this
    rw [ht]
    simpa [Function.comp_def] using this
  obtain ⟨k', ms', p1, p2, c2⟩ := ev_new (n := n) c1 (.inr ⟨_, rfl, get_last⟩) (.inr ⟨_, rfl, hr⟩) pr o.big
  refine ⟨k', ms', p1, p2, ?_⟩
  rw [fn40']
  simp only [d40, DefT.fn, ir40]
  refine run_rt rfl (exs_nx (s2 := [some (.ref m), some (.ref h.length), none, none]) (h2 := h ++ t) (ex_asg (i := 1) b1) (exs_rt (ex_ret c2))) ?_
  · rw [List.append_assoc h t]
    exact gc_far below_full
end K14
end

-- M21
section
set_option Elab.async false
set_option linter.all false
set_option maxRecDepth 100000
set_option maxHeartbeats 1000000
namespace K14
open PySem L2 Z
/-! ### equal or not, by values -/
theorem all_can {α : Type} {f : α → PyData} (h : ∀ a, (f a).canLay0 = true) : ∀ l : List α, PyData.canLayAll0 (l.map f) = true
  | [] => by simp [PyData.canLayAll0]
  | a :: l => by simp [PyData.canLayAll0, h a, all_can h l]
theorem all_depth {α : Type} {f : α → PyData} {n : Nat} (h : ∀ a, (f a).depth ≤ n) : ∀ l : List α, PyData.depthAll (l.map f) ≤ n
  | [] => by simp [PyData.depthAll]
  | a :: l => by
    have := all_depth h l
    have := h a
    simp only [List.map_cons, PyData.depthAll]
    exact Nat.max_le.mpr ⟨h a, all_depth h l⟩
theorem all_eqv {α : Type} [DecidableEq α] {f : α → PyData} (h : ∀ a b, PyData.eqv (f a) (f b) = decide (a = b)) : ∀ l k : List α, PyData.eqvAll (l.map f) (k.map f) = decide (l = k)
  | [], [] => by simp [PyData.eqvAll]
  | [], b :: k => by simp [PyData.eqvAll]
  | a :: l, [] => by simp [PyData.eqvAll]
  | a :: l, b :: k => by simp [PyData.eqvAll, h a b, all_eqv h l k]
abbrev tI := K14.tupP
def lI (l : List Int) : PyData := .list (l.map .int)
theorem can_i (i : Int) : (PyData.int i).canLay0 = true := by simp [PyData.canLay0]
theorem dep_i (i : Int) : (PyData.int i).depth ≤ 0 := by simp [PyData.depth]
theorem eqv_i (i j : Int) : PyData.eqv (.int i) (.int j) = decide (i = j) := by
  simp only [PyData.eqv]
  rw [Bool.eq_iff_iff]
  simp
theorem can_tI (l : List Int) : (tI l).canLay0 = true := by simp only [tupP, PyData.canLay0]; exact all_can can_i l
theorem can_lI (l : List Int) : (lI l).canLay0 = true := by simp only [lI, PyData.canLay0]; exact all_can can_i l
theorem dep_tI (l : List Int) : (tI l).depth ≤ 1 := by
  have := all_depth dep_i l
  simp only [tupP, PyData.depth]
  omega
theorem dep_lI (l : List Int) : (lI l).depth ≤ 1 := by
  have := all_depth dep_i l
  simp only [lI, PyData.depth]
  omega
theorem eqv_tI (a b : List Int) : PyData.eqv (tI a) (tI b) = decide (a = b) := by
  simp only [tupP, PyData.eqv]
  exact all_eqv eqv_i a b
theorem eqv_lI (a b : List Int) : PyData.eqv (lI a) (lI b) = decide (a = b) := by
  simp only [lI, PyData.eqv]
  exact all_eqv eqv_i a b
theorem eqP_of {h : Hh} {a b : D} {x y : PyData} (ha : toP h a = some x) (hb : toP h b = some y) (ca : x.canLay0 = true) (cb : y.canLay0 = true) (da : x.depth ≤ 64) (db : y.depth ≤ 64) : eqP h a b = some (PyData.eqv x y) := by
  simp [eqP, ha, hb, SeqAt.shaped, ca, cb, da, db]
theorem toP_rowI {h : Hh} {l : List Int} : toP h (row l) = some (tI l) := toP_row
theorem eqP_rows {h : Hh} {a b : List Int} : eqP h (row a) (row b) = some (decide (a = b)) := by
  have h1 := dep_tI a
  have h2 := dep_tI b
  rw [eqP_of toP_rowI toP_rowI (can_tI a) (can_tI b) (by omega) (by omega), eqv_tI]
theorem eqP_ttI {h : Hh} {a b : List (List Int)} : eqP h (.tup (a.map row)) (.tup (b.map row)) = some (decide (a = b)) := by
  have e : ∀ c : List (List Int), toP h (.tup (c.map row)) = some (.tuple (c.map tI)) := fun c => by simp [toP, toPW, toPWs_rows]
  have c : ∀ c : List (List Int), (PyData.tuple (c.map tI)).canLay0 = true := fun c => by simp only [PyData.canLay0]; exact all_can can_tI c
  have d : ∀ c : List (List Int), (PyData.tuple (c.map tI)).depth ≤ 2 := fun c => by
    have := all_depth dep_tI c
    simp only [PyData.depth]
    omega
  have h1 := d a
  have h2 := d b
  rw [eqP_of (e a) (e b) (c a) (c b) (by omega) (by omega)]
  simp only [PyData.eqv, all_eqv eqv_tI]
theorem eqP_tt0 {h : Hh} {a : List (List Int)} : eqP h (.tup (a.map row)) (.tup []) = some (decide (a = [])) := eqP_ttI (b := [])
theorem eqP_row0 {h : Hh} {a : List Int} : eqP h (row a) (.tup []) = some (decide (a = [])) := eqP_rows (b := [])
theorem evT_ite {G : GEnv} {cs : CS} {t : Ts} {a b : Ex} {s : Sl} {h h1 : Hh} {v : Bool} {r : Option (D × Hh)} (e : evT G cs t s h = some (v, h1)) (k : (if v = true then ev G cs a s h1 else ev G cs b s h1) = r) : ev G cs (.ite t a b) s h = r := by
  cases v <;> simp_all [ev]
theorem t_len12 {cs : CS} {a b : Option D} {L : List Int} {H : Hh} : ∃ v, ev cfg.G cs (.or (.bin .eq (.app .len (.cons (.var 2) .nil)) (.con (.int 1))) (.and (.bin .eq (.app .len (.cons (.var 2) .nil)) (.con (.int 2))) (.bin .ne (.bin .ix (.var 2) (.con (.int 0))) (.bin .ix (.var 2) (.con (.int 1)))))) [a, b, some (row L)] H = some (.bl v, H) ∧ (v = true → L.length = 1 ∨ L.length = 2) := by
  match L with
  | [] => exact ⟨false, by simp [Z.run, exs, ex.eq_1, ex.eq_2, ex.eq_3, ex.eq_4, ex.eq_5, ex.eq_6, ex.eq_7, ex.eq_8, ex.eq_9, ex.eq_10, ev.eq_1, ev.eq_2, ev.eq_3, ev.eq_4, ev.eq_5, ev.eq_6, ev.eq_7, ev.eq_8, ev.eq_9, ev.eq_10, ev.eq_11, ev.eq_12, ev.eq_13, ev.eq_14, ev.eq_15, ev.eq_16, ev.eq_17, ev.eq_18, ev.eq_19, ev.eq_22, ev.eq_23, evs, evT, evI, st, sts, prim1, prim2, primN, startD, truth_bl, truth_int, truth_non, ixD, seqOf, itSeq, tyD, newL, line, keyOf, kget, gOk, wipeD, allBls, allInts, atI, ixN, gc_pre, gc_same, gcb1, gcb2, gci1, gci2, gcn1, gcn2, gcs1, gcs2, below_bl, below_int, below_non, below_str, below_tup, below_gd, belows, eqP_int, get_last, set_last, enumD, row, zs], by simp⟩
  | [x] => exact ⟨true, by simp [Z.run, exs, ex.eq_1, ex.eq_2, ex.eq_3, ex.eq_4, ex.eq_5, ex.eq_6, ex.eq_7, ex.eq_8, ex.eq_9, ex.eq_10, ev.eq_1, ev.eq_2, ev.eq_3, ev.eq_4, ev.eq_5, ev.eq_6, ev.eq_7, ev.eq_8, ev.eq_9, ev.eq_10, ev.eq_11, ev.eq_12, ev.eq_13, ev.eq_14, ev.eq_15, ev.eq_16, ev.eq_17, ev.eq_18, ev.eq_19, ev.eq_22, ev.eq_23, evs, evT, evI, st, sts, prim1, prim2, primN, startD, truth_bl, truth_int, truth_non, ixD, seqOf, itSeq, tyD, newL, line, keyOf, kget, gOk, wipeD, allBls, allInts, atI, ixN, gc_pre, gc_same, gcb1, gcb2, gci1, gci2, gcn1, gcn2, gcs1, gcs2, below_bl, below_int, below_non, below_str, below_tup, below_gd, belows, eqP_int, get_last, set_last, enumD, row, zs], by simp⟩
  | [x, y] => exact ⟨!(x == y), by simp [Z.run, exs, ex.eq_1, ex.eq_2, ex.eq_3, ex.eq_4, ex.eq_5, ex.eq_6, ex.eq_7, ex.eq_8, ex.eq_9, ex.eq_10, ev.eq_1, ev.eq_2, ev.eq_3, ev.eq_4, ev.eq_5, ev.eq_6, ev.eq_7, ev.eq_8, ev.eq_9, ev.eq_10, ev.eq_11, ev.eq_12, ev.eq_13, ev.eq_14, ev.eq_15, ev.eq_16, ev.eq_17, ev.eq_18, ev.eq_19, ev.eq_22, ev.eq_23, evs, evT, evI, st, sts, prim1, prim2, primN, startD, truth_bl, truth_int, truth_non, ixD, seqOf, itSeq, tyD, newL, line, keyOf, kget, gOk, wipeD, allBls, allInts, atI, ixN, gc_pre, gc_same, gcb1, gcb2, gci1, gci2, gcn1, gcn2, gcs1, gcs2, below_bl, below_int, below_non, below_str, below_tup, below_gd, belows, eqP_int, get_last, set_last, enumD, row, zs], by simp⟩
  | x :: y :: z :: L =>
    refine ⟨false, ?_, by simp⟩
    have h1 : ((L.length + 1 + 1 + 1 : Int) == 1) = false := by simp; omega
    have h2 : ((L.length + 1 + 1 + 1 : Int) == 2) = false := by simp; omega
    simp [Z.run, exs, ex.eq_1, ex.eq_2, ex.eq_3, ex.eq_4, ex.eq_5, ex.eq_6, ex.eq_7, ex.eq_8, ex.eq_9, ex.eq_10, ev.eq_1, ev.eq_2, ev.eq_3, ev.eq_4, ev.eq_5, ev.eq_6, ev.eq_7, ev.eq_8, ev.eq_9, ev.eq_10, ev.eq_11, ev.eq_12, ev.eq_13, ev.eq_14, ev.eq_15, ev.eq_16, ev.eq_17, ev.eq_18, ev.eq_19, ev.eq_22, ev.eq_23, evs, evT, evI, st, sts, prim1, prim2, primN, startD, truth_bl, truth_int, truth_non, ixD, seqOf, itSeq, tyD, newL, line, keyOf, kget, gOk, wipeD, allBls, allInts, atI, ixN, gc_pre, gc_same, gcb1, gcb2, gci1, gci2, gcn1, gcn2, gcs1, gcs2, below_bl, below_int, below_non, below_str, below_tup, below_gd, belows, eqP_int, get_last, set_last, enumD, row, zs, h1, h2]
end K14
end

-- M22
section
set_option Elab.async false
set_option linter.all false
set_option maxRecDepth 100000
set_option maxHeartbeats 1000000
namespace K14
open PySem L2 Z
theorem big_flat : ∀ ms : List (List Int), (ms.map big).flatten = big ms.flatten
  | [] => rfl
  | r :: ms => by
    have e : big (r ++ ms.flatten) = big r ++ big ms.flatten := List.filter_append ..
    rw [List.map_cons, List.flatten_cons, List.flatten_cons, big_flat ms, e]
theorem ev_umtF {cs : CS} {i f g m : Nat} {s : Sl} {h : Hh} {hd cp : Int} {k : List Int} {ms : List (List Int)} {r : Option (D × Hh)} (hs : s[i]? = some (some (.ref m))) (q : FullAt h m hd cp k ms) (h6 : f < 6) (hm : cfg.G.mth 0 f = some g) (e : cs.fn g [.ref m] h = r) : ev cfg.G cs (.umt f (.var i) .nil) s h = r := by
  have q' : h[m]? = some (fullO hd cp k ms) := q
  have hk : kget f [(6, D.int hd), (7, .int cp), (8, row k), (9, .tup (ms.map row)), (10, .tup [.int hd, .int cp, row k, .tup (ms.map row)])] = none := by
    simp only [kget]
    rw [if_neg (by omega), if_neg (by omega), if_neg (by omega), if_neg (by omega), if_neg (by omega)]
  simp only [ev, evs, hs, q', fullO, hm, hk, e]
theorem fn19 (n vs h) : (S (n+1)).fn 19 vs h = Z.run cfg.G (S n) d19.fn vs h := rfl
def ShutP (hd cp : Int) (k : List Int) (ms : List (List Int)) : Prop := hd ≤ 0 ∧ cp ≤ 0 ∧ ((ms = [] ∧ ((big k).length = 1 ∨ (big k).length = 2)) ∨ (ms.length = 1 ∧ big k = [] ∧ ((big ms.flatten).length = 1 ∨ (big ms.flatten).length = 2)))
theorem ms_tup {h : Hh} {cs : CS} {r : List Int} {ms : List (List Int)} : prim2 cfg.G .ix (.tup ((r :: ms).map row)) (.int 0) h = some (row r, h) := by
  simp [Z.run, exs, ex.eq_1, ex.eq_2, ex.eq_3, ex.eq_4, ex.eq_5, ex.eq_6, ex.eq_7, ex.eq_8, ex.eq_9, ex.eq_10, ev.eq_1, ev.eq_2, ev.eq_3, ev.eq_4, ev.eq_5, ev.eq_6, ev.eq_7, ev.eq_8, ev.eq_9, ev.eq_10, ev.eq_11, ev.eq_12, ev.eq_13, ev.eq_14, ev.eq_15, ev.eq_16, ev.eq_17, ev.eq_18, ev.eq_19, ev.eq_22, ev.eq_23, evs, evT, evI, st, sts, prim1, prim2, primN, startD, truth_bl, truth_int, truth_non, ixD, seqOf, itSeq, tyD, newL, line, keyOf, kget, gOk, wipeD, allBls, allInts, atI, ixN, gc_pre, gc_same, gcb1, gcb2, gci1, gci2, gcn1, gcn2, gcs1, gcs2, below_bl, below_int, below_non, below_str, below_tup, below_gd, belows, eqP_int, get_last, set_last, enumD]
theorem t_shut (n m : Nat) (hd cp : Int) (k : List Int) (ms : List (List Int)) (h : Hh) (q : FullAt h m hd cp k ms) (o : OkF hd cp k ms) :
    ∃ b, (S (n+8)).fn 19 [.ref m] h = some (.bl b, h) ∧ (b = true → ShutP hd cp k ms) := by
  obtain ⟨k', ms', p1, p2, a1⟩ := t_without n m hd cp k ms h q o
  have a0 := t_needfull (n+6) "full" m hd cp k ms h q
  have a2 := ev_umtF (cs := S (n+7)) (i := 0) (f := 5) (s := [some (.ref m), none, none]) rfl q (by decide) rfl a1
  have q1 : FullAt (h ++ [fullO hd cp k' ms']) h.length hd cp k' ms' := get_last
  have f6 := ev_fldF (cs := S (n+7)) (i := 1) (f := 6) (s := [some (.ref m), some (.ref h.length), none]) rfl q1 rfl rfl
  have f7 := ev_fldF (cs := S (n+7)) (i := 1) (f := 7) (s := [some (.ref m), some (.ref h.length), none]) rfl q1 rfl rfl
  have f8 := ev_fldF (cs := S (n+7)) (i := 1) (f := 8) (s := [some (.ref m), some (.ref h.length), none]) rfl q1 rfl rfl
  have f9 := ev_fldF (cs := S (n+7)) (i := 1) (f := 9) (s := [some (.ref m), some (.ref h.length), none]) rfl q1 rfl rfl
  generalize hH : h ++ [fullO hd cp k' ms'] = H at *
  have x1 : ex cfg.G (S (n+7)) (.exp (.call 15 (.cons (.con (.str "full")) (.cons (.var 0) .nil)))) [some (.ref m), none, none] h = some (.nx [some (.ref m), none, none] h) := by
    simp [Z.run, exs, ex.eq_1, ex.eq_2, ex.eq_3, ex.eq_4, ex.eq_5, ex.eq_6, ex.eq_7, ex.eq_8, ex.eq_9, ex.eq_10, ev.eq_1, ev.eq_2, ev.eq_3, ev.eq_4, ev.eq_5, ev.eq_6, ev.eq_7, ev.eq_8, ev.eq_9, ev.eq_10, ev.eq_11, ev.eq_12, ev.eq_13, ev.eq_14, ev.eq_15, ev.eq_16, ev.eq_17, ev.eq_18, ev.eq_19, ev.eq_22, ev.eq_23, evs, evT, evI, st, sts, prim1, prim2, primN, startD, truth_bl, truth_int, truth_non, ixD, seqOf, itSeq, tyD, newL, line, keyOf, kget, gOk, wipeD, allBls, allInts, atI, ixN, gc_pre, gc_same, gcb1, gcb2, gci1, gci2, gcn1, gcn2, gcs1, gcs2, below_bl, below_int, below_non, below_str, below_tup, below_gd, belows, eqP_int, get_last, set_last, enumD, a0]
  have g0 : evs cfg.G (S (n+7)) .nil [some (.ref m), some (.ref h.length), none] H = some ([], H) := by simp only [evs]
  have t1 : evT cfg.G (S (n+7)) (.val (.bin .gt (.fld 6 (.var 1)) (.con (.int 0)))) [some (.ref m), some (.ref h.length), none] H = some (decide (0 < hd), H) := evT_val (ev_bin f6 (by rw [ev.eq_2]) rfl)
  have t2 : evT cfg.G (S (n+7)) (.val (.bin .gt (.fld 7 (.var 1)) (.con (.int 0)))) [some (.ref m), some (.ref h.length), none] H = some (decide (0 < cp), H) := evT_val (ev_bin f7 (by rw [ev.eq_2]) rfl)
  have t3 : evT cfg.G (S (n+7)) (.val (.bin .gt (.app .len (.cons (.fld 9 (.var 1)) .nil)) (.con (.int 1)))) [some (.ref m), some (.ref h.length), none] H = some (decide ((1 : Int) < ms'.length), H) := by
    refine evT_val (ev_bin (ev_app1 f9 (r := some (.int ms'.length, H)) ?_) (by rw [ev.eq_2]) rfl)
    simp [prim1]
  have hn : ∀ s : Sl, ev cfg.G (S (n+7)) (.tup .nil) s H = some (.tup [], H) := fun s => by simp [ev, evs]
  have t4 : evT cfg.G (S (n+7)) (.val (.bin .ne (.fld 9 (.var 1)) (.tup .nil))) [some (.ref m), some (.ref h.length), none] H = some (!decide (ms' = []), H) := by
    refine evT_val (ev_bin f9 (hn _) ?_)
    simp only [prim2, eqP_tt0]
  have t5 : evT cfg.G (S (n+7)) (.val (.bin .ne (.fld 8 (.var 1)) (.tup .nil))) [some (.ref m), some (.ref h.length), none] H = some (!decide (k' = []), H) := by
    refine evT_val (ev_bin f8 (hn _) ?_)
    simp only [prim2, eqP_row0]
  have t6 : evT cfg.G (S (n+7)) (.val (.bin .eq (.fld 9 (.var 1)) (.tup .nil))) [some (.ref m), some (.ref h.length), none] H = some (decide (ms' = []), H) := by
    refine evT_val (ev_bin f9 (hn _) ?_)
    simp only [prim2, eqP_tt0]
  have l1 : ms'.length = ms.length := by
    have := p2.len
    simpa using this
  have l2 := p1.length_eq
  have l3 := p2.flat.length_eq
  rw [big_flat] at l3
  have tC : evT cfg.G (S (n+7)) (.or (.val (.bin .gt (.fld 6 (.var 1)) (.con (.int 0)))) (.or (.val (.bin .gt (.fld 7 (.var 1)) (.con (.int 0)))) (.or (.val (.bin .gt (.app .len (.cons (.fld 9 (.var 1)) .nil)) (.con (.int 1)))) (.and (.val (.bin .ne (.fld 9 (.var 1)) (.tup .nil))) (.val (.bin .ne (.fld 8 (.var 1)) (.tup .nil))))))) [some (.ref m), some (.ref h.length), none] H = some (decide (0 < hd) || (decide (0 < cp) || (decide ((1 : Int) < ms'.length) || (!decide (ms' = []) && !decide (k' = [])))), H) := by
    rw [evT.eq_4, t1]
    cases decide (0 < hd) with
    | true => rfl
    | false =>
      simp only [Bool.false_or]
      rw [evT.eq_4, t2]
      cases decide (0 < cp) with
      | true => rfl
      | false =>
        simp only [Bool.false_or]
        rw [evT.eq_4, t3]
        cases decide ((1 : Int) < ms'.length) with
        | true => rfl
        | false =>
          simp only [Bool.false_or]
          rw [evT.eq_3, t4]
          cases decide (ms' = []) with
          | true => rfl
          | false => simp only [Bool.not_false, Bool.true_and]; exact t5
  rw [fn19]
  simp only [d19, DefT.fn, ir19]
  have x2 : ex cfg.G (S (n+7)) (.asg (.nm 1) (.umt 5 (.var 0) .nil)) [some (.ref m), none, none] h = some (.nx [some (.ref m), some (.ref h.length), none] H) := ex_asg a2
  have gcb : ∀ b : Bool, gc h (.bl b, H) = (.bl b, h) := fun b => by rw [← hH]; exact gcb2
  by_cases C : (decide (0 < hd) || (decide (0 < cp) || (decide ((1 : Int) < ms'.length) || (!decide (ms' = []) && !decide (k' = []))))) = true
  · rw [C] at tC
    refine ⟨false, run_rt rfl (exs_nx x1 (exs_nx x2 (exs_rt (v := .bl false) (h2 := H) (ex_ite tC ?_)))) (gcb _), by simp⟩
    simp [Z.run, exs, ex.eq_1, ex.eq_2, ex.eq_3, ex.eq_4, ex.eq_5, ex.eq_6, ex.eq_7, ex.eq_8, ex.eq_9, ex.eq_10, ev.eq_1, ev.eq_2, ev.eq_3, ev.eq_4, ev.eq_5, ev.eq_6, ev.eq_7, ev.eq_8, ev.eq_9, ev.eq_10, ev.eq_11, ev.eq_12, ev.eq_13, ev.eq_14, ev.eq_15, ev.eq_16, ev.eq_17, ev.eq_18, ev.eq_19, ev.eq_22, ev.eq_23, evs, evT, evI, st, sts, prim1, prim2, primN, startD, truth_bl, truth_int, truth_non, ixD, seqOf, itSeq, tyD, newL, line, keyOf, kget, gOk, wipeD, allBls, allInts, atI, ixN, gc_pre, gc_same, gcb1, gcb2, gci1, gci2, gcn1, gcn2, gcs1, gcs2, below_bl, below_int, below_non, below_str, below_tup, below_gd, belows, eqP_int, get_last, set_last, enumD]
  · have C' := Bool.eq_false_iff.mpr C
    rw [C'] at tC
    simp only [Bool.or_eq_true, Bool.and_eq_true, decide_eq_true_eq, Bool.not_eq_true', decide_eq_false_iff_not, not_or, not_and, Decidable.not_not] at C
    obtain ⟨c1, c2, c3, c4⟩ := C
    have fin : ∀ L : List Int, (L.length = 1 ∨ L.length = 2 → ShutP hd cp k ms) → ev cfg.G (S (n+7)) (.ite (.val (.bin .eq (.fld 9 (.var 1)) (.tup .nil))) (.fld 8 (.var 1)) (.bin .ix (.fld 9 (.var 1)) (.con (.int 0)))) [some (.ref m), some (.ref h.length), none] H = some (row L, H) → ∃ b, Z.run cfg.G (S (n+7)) { np := 1, nn := 3, body := ir19 } [.ref m] h = some (.bl b, h) ∧ (b = true → ShutP hd cp k ms) := fun L hL e => by
      obtain ⟨b, eb, hb⟩ := t_len12 (cs := S (n+7)) (a := some (.ref m)) (b := some (.ref h.length)) (L := L) (H := H)
      refine ⟨b, run_rt rfl (exs_nx x1 (exs_nx x2 (exs_nx (s2 := [some (.ref m), some (.ref h.length), none]) (h2 := H) (ex_ite tC (by rfl)) (exs_nx (s2 := [some (.ref m), some (.ref h.length), some (row L)]) (h2 := H) (ex_asg (i := 2) e) (exs_rt (ex_ret eb)))))) (gcb _), fun q => hL (hb q)⟩
    cases ms' with
    | nil =>
      refine fin k' (fun hk => ?_) (evT_ite t6 f8)
      have : ms = [] := List.length_eq_zero_iff.mp l1.symm
      exact ⟨by omega, by omega, .inl ⟨this, by omega⟩⟩
    | cons r ms' =>
      have hk : k' = [] := c4 (by simp)
      have hm : ms' = [] := by
        simp only [List.length_cons] at c3
        exact List.length_eq_zero_iff.mp (by omega)
      subst hk
      subst hm
      refine fin r (fun hr => ?_) (evT_ite t6 (by
        rw [if_neg (by simp)]
        exact ev_bin f9 (by rw [ev.eq_2]) (ms_tup (cs := S n))))
      simp only [List.flatten_cons, List.flatten_nil, List.append_nil] at l3
      refine ⟨by omega, by omega, .inr ⟨l1.symm, List.length_eq_zero_iff.mp l2.symm, by omega⟩⟩
end K14
end

-- M23
section
set_option Elab.async false
set_option linter.all false
set_option maxRecDepth 100000
set_option maxHeartbeats 1000000
namespace K14
open PySem L2 Z
theorem fn20 (n vs h) : (S (n+1)).fn 20 vs h = Z.run cfg.G (S n) d20.fn vs h := rfl
theorem fn21 (n vs h) : (S (n+1)).fn 21 vs h = Z.run cfg.G (S n) d21.fn vs h := rfl
theorem fn22 (n vs h) : (S (n+1)).fn 22 vs h = Z.run cfg.G (S n) d22.fn vs h := rfl
theorem SeqV.len {h : Hh} {v : D} {xs : List D} (q : SeqV h v xs) : prim1 .len v h = some (.int xs.length, h) := by
  rcases q with rfl | ⟨n, rfl, e⟩
  · rfl
  · simp [prim1, e]
def lack (e : Int) (r : Nat) : Int := 2 - (r : Int) - e
def heOf (two : Bool) (l : Int) : Int := if two = true then l / 2 else 0
def caOf (two : Bool) (l : Int) : Int := if two = true then 0 else l
theorem t_ofeuler (n : Nat) (e : Int) (two : Bool) (v2 v3 : D) (l : List Int) (xs : List D) (rs : List (List Int)) (h : Hh) (q1 : SeqV h v2 (zs l)) (q2 : SeqV h v3 xs) (p : PWV h xs rs) (o : OkF (heOf two (lack e rs.length)) (caOf two (lack e rs.length)) l rs) :
    ∃ k ms, k.Perm l ∧ Same ms rs ∧ (S (n+7)).fn 20 [.int e, .bl two, v2, v3] h = some (.ref h.length, h ++ [fullO (heOf two (lack e rs.length)) (caOf two (lack e rs.length)) k ms]) := by
  have o1 := o.hd1
  have o2 := o.cp1
  generalize hl : lack e rs.length = L at *
  have c1 : evs cfg.G (S (n+6)) (.cons (.var 5) (.cons (.var 6) (.cons (.var 2) (.cons (.var 3) .nil)))) [some (.int e), some (.bl two), some v2, some v3, some (.int L), some (.int (heOf two L)), some (.int (caOf two L))] h = some ([.int (heOf two L), .int (caOf two L), v2, v3], h) := by
    simp [Z.run, exs, ex.eq_1, ex.eq_2, ex.eq_3, ex.eq_4, ex.eq_5, ex.eq_6, ex.eq_7, ex.eq_8, ex.eq_9, ex.eq_10, ev.eq_1, ev.eq_2, ev.eq_3, ev.eq_4, ev.eq_5, ev.eq_6, ev.eq_7, ev.eq_8, ev.eq_9, ev.eq_10, ev.eq_11, ev.eq_12, ev.eq_13, ev.eq_14, ev.eq_15, ev.eq_16, ev.eq_17, ev.eq_18, ev.eq_19, ev.eq_22, ev.eq_23, evs, evT, evI, st, sts, prim1, prim2, primN, startD, truth_bl, truth_int, truth_non, ixD, seqOf, itSeq, tyD, newL, line, keyOf, kget, gOk, wipeD, allBls, allInts, atI, ixN, gc_pre, gc_same, gcb1, gcb2, gci1, gci2, gcn1, gcn2, gcs1, gcs2, below_bl, below_int, below_non, below_str, below_tup, below_gd, belows, eqP_int, get_last, set_last, enumD]
  obtain ⟨k, ms, p1, p2, c2⟩ := ev_new (n := n) c1 q1 q2 p o
  refine ⟨k, ms, p1, p2, ?_⟩
  have x1 : ex cfg.G (S (n+6)) (.asg (.nm 4) (.bin .sub (.bin .sub (.con (.int 2)) (.app .len (.cons (.var 3) .nil))) (.var 0))) [some (.int e), some (.bl two), some v2, some v3, none, none, none] h = some (.nx [some (.int e), some (.bl two), some v2, some v3, some (.int L), none, none] h) := by
    have a1 := ev_app1 (G := cfg.G) (cs := S (n+6)) (p := .len) (X := .var 3) (s := [some (.int e), some (.bl two), some v2, some v3, none, none, none]) (ev_var rfl) q2.len
    rw [p.len] at a1
    have a2 := ev_bin (G := cfg.G) (cs := S (n+6)) (p := .sub) (X := .bin .sub (.con (.int 2)) (.app .len (.cons (.var 3) .nil))) (Y := .var 0) (r := some (.int L, h)) (ev_bin (X := .con (.int 2)) (p := .sub) (r := some (.int (2 - (rs.length : Int)), h)) (by rw [ev.eq_2]) a1 rfl) (ev_var rfl) (by rw [← hl]; rfl)
    exact ex_asg a2
  have x2 : ex cfg.G (S (n+6)) (.asg (.tp (.cons (.nm 5) (.cons (.nm 6) .nil))) (.ite (.val (.var 1)) (.tup (.cons (.bin .fdiv (.var 4) (.con (.int 2))) (.cons (.con (.int 0)) .nil))) (.tup (.cons (.con (.int 0)) (.cons (.var 4) .nil))))) [some (.int e), some (.bl two), some v2, some v3, some (.int L), none, none] h = some (.nx [some (.int e), some (.bl two), some v2, some v3, some (.int L), some (.int (heOf two L)), some (.int (caOf two L))] h) := by
    have hd2 : divOk 2 = true := by decide
    have hf : L.fdiv 2 = L / 2 := Int.fdiv_eq_ediv_of_nonneg _ (by decide)
    cases two <;> simp [Z.run, exs, ex.eq_1, ex.eq_2, ex.eq_3, ex.eq_4, ex.eq_5, ex.eq_6, ex.eq_7, ex.eq_8, ex.eq_9, ex.eq_10, ev.eq_1, ev.eq_2, ev.eq_3, ev.eq_4, ev.eq_5, ev.eq_6, ev.eq_7, ev.eq_8, ev.eq_9, ev.eq_10, ev.eq_11, ev.eq_12, ev.eq_13, ev.eq_14, ev.eq_15, ev.eq_16, ev.eq_17, ev.eq_18, ev.eq_19, ev.eq_22, ev.eq_23, evs, evT, evI, st, sts, prim1, prim2, primN, startD, truth_bl, truth_int, truth_non, ixD, seqOf, itSeq, tyD, newL, line, keyOf, kget, gOk, wipeD, allBls, allInts, atI, ixN, gc_pre, gc_same, gcb1, gcb2, gci1, gci2, gcn1, gcn2, gcs1, gcs2, below_bl, below_int, below_non, below_str, below_tup, below_gd, belows, eqP_int, get_last, set_last, enumD, ev.eq_17, sts, hd2, hf, heOf, caOf]
  have x3 : evT cfg.G (S (n+6)) (.val (.bin .gt (.app .max2 (.cons (.var 5) (.cons (.var 6) .nil))) (.glo 2))) [some (.int e), some (.bl two), some v2, some v3, some (.int L), some (.int (heOf two L)), some (.int (caOf two L))] h = some (false, h) := by
    have g2 : cfg.G.glo 2 = .int 60 := rfl
    have hm : ¬ (60 < (if caOf two L > heOf two L then caOf two L else heOf two L)) := by
      split <;> omega
    simp [Z.run, exs, ex.eq_1, ex.eq_2, ex.eq_3, ex.eq_4, ex.eq_5, ex.eq_6, ex.eq_7, ex.eq_8, ex.eq_9, ex.eq_10, ev.eq_1, ev.eq_2, ev.eq_3, ev.eq_4, ev.eq_5, ev.eq_6, ev.eq_7, ev.eq_8, ev.eq_9, ev.eq_10, ev.eq_11, ev.eq_12, ev.eq_13, ev.eq_14, ev.eq_15, ev.eq_16, ev.eq_17, ev.eq_18, ev.eq_19, ev.eq_22, ev.eq_23, evs, evT, evI, st, sts, prim1, prim2, primN, startD, truth_bl, truth_int, truth_non, ixD, seqOf, itSeq, tyD, newL, line, keyOf, kget, gOk, wipeD, allBls, allInts, atI, ixN, gc_pre, gc_same, gcb1, gcb2, gci1, gci2, gcn1, gcn2, gcs1, gcs2, below_bl, below_int, below_non, below_str, below_tup, below_gd, belows, eqP_int, get_last, set_last, enumD, g2]
    omega
  rw [fn20]
  simp only [d20, DefT.fn, ir20]
  exact run_rt rfl (exs_nx x1 (exs_nx x2 (exs_nx (ex_ite x3 (by rfl)) (exs_rt (ex_ret c2))))) (gc_new below_full)
end K14
end

-- M24
section
set_option Elab.async false
set_option linter.all false
set_option maxRecDepth 100000
set_option maxHeartbeats 1000000
namespace K14
open PySem L2 Z
def eul (hd cp : Int) (ms : List (List Int)) : Int := 2 - 2 * hd - cp - (ms.length : Int)
theorem ev_callE {G : GEnv} {cs : CS} {f : Nat} {es : Exs} {s : Sl} {h h1 : Hh} {ds : List D} {r : Option (D × Hh)} (he : evs G cs es s h = some (ds, h1)) (e : cs.fn f ds h1 = r) : ev G cs (.call f es) s h = r := by
  rw [ev.eq_16, he]
  exact e
theorem ev_tup0 {G : GEnv} {cs : CS} {s : Sl} {h : Hh} : ev G cs (.tup .nil) s h = some (.tup [], h) := by simp [ev, evs]
theorem t_mirrored (n m : Nat) (hd cp : Int) (k : List Int) (ms : List (List Int)) (h : Hh) (q : FullAt h m hd cp k ms) (b1 : 0 ≤ hd ∧ hd ≤ 60) (b2 : 0 ≤ cp ∧ cp ≤ 60) (b3 : ms.length ≤ 60) (hn : ms ≠ []) (l2 : ms.flatten.length ≤ 1000) (l1 : k.length ≤ 1000)
    (o : OkF (heOf (cp == 0) (lack (2 * eul hd cp ms) 0)) (caOf (cp == 0) (lack (2 * eul hd cp ms) 0)) (k ++ (k ++ ms.flatten)) []) :
    ∃ k' ms', k'.Perm (k ++ (k ++ ms.flatten)) ∧ Same ms' [] ∧ (S (n+8)).fn 21 [.ref m] h = some (.ref h.length, h ++ [fullO (heOf (cp == 0) (lack (2 * eul hd cp ms) 0)) (caOf (cp == 0) (lack (2 * eul hd cp ms) 0)) k' ms']) := by
  have a0 := t_needfull (n+6) "full" m hd cp k ms h q
  have a1 := ev_flat (cs := S (n+7)) (a := none) (b := none) (c := none) q l2
  generalize hH : h ++ [O.lst (zs ms.flatten)] = H at *
  have q1 : FullAt H m hd cp k ms := by rw [← hH]; exact q.app
  have hr : H[h.length]? = some (.lst (zs ms.flatten)) := by rw [← hH]; exact get_last
  have a2 := ev_umtF (cs := S (n+7)) (i := 0) (f := 1) (s := [some (.ref m), some (.ref h.length), none, none]) rfl q1 (by decide) rfl (t_euler (n+6) m hd cp k ms H q1 b1)
  have a3 := ev_umtF (cs := S (n+7)) (i := 0) (f := 0) (s := [some (.ref m), some (.ref h.length), none, none]) rfl q1 (by decide) rfl (t_two (n+6) m hd cp k ms H q1)
  have f8 := ev_fldF (cs := S (n+7)) (i := 0) (f := 8) (s := [some (.ref m), some (.ref h.length), none, none]) rfl q1 rfl rfl
  have f9 := ev_fldF (cs := S (n+7)) (i := 0) (f := 9) (s := [some (.ref m), none, none, none]) rfl q rfl rfl
  have hl : (k ++ (k ++ ms.flatten)).length ≤ Z.line := by
    simp only [List.length_append]
    unfold Z.line
    omega
  have a4 : ev cfg.G (S (n+7)) (.lst (.star (.fld 8 (.var 0)) (.star (.fld 8 (.var 0)) (.star (.var 1) .nil)))) [some (.ref m), some (.ref h.length), none, none] H = some (.ref H.length, H ++ [.lst (zs (k ++ (k ++ ms.flatten)))]) := by
    have s1 : seqOf H (row k) = some (zs k) := rfl
    have s2 : seqOf H (.ref h.length) = some (zs ms.flatten) := by simp [seqOf, hr]
    have v1 := ev_var (G := cfg.G) (cs := S (n+7)) (k := 1) (s := [some (.ref m), some (.ref h.length), none, none]) (h := H) rfl
    have e0 : evs cfg.G (S (n+7)) (.star (.fld 8 (.var 0)) (.star (.fld 8 (.var 0)) (.star (.var 1) .nil))) [some (.ref m), some (.ref h.length), none, none] H = some (zs (k ++ (k ++ ms.flatten)), H) := by
      simp only [evs, f8, s1, v1, s2, zs_app, List.append_nil]
    rw [ev.eq_5, e0]
    simp only [zs_len, hl, if_true, newL]
  have hm : mulOk 2 (eul hd cp ms) = true := mulOk_of (by decide) (by unfold eul; omega)
  have a5 : ev cfg.G (S (n+7)) (.bin .mul (.con (.int 2)) (.umt 1 (.var 0) .nil)) [some (.ref m), some (.ref h.length), none, none] H = some (.int (2 * eul hd cp ms), H) := ev_bin (by rw [ev.eq_2]) a2 (by
    simp only [prim2]
    exact if_pos hm)
  obtain ⟨k', ms', p1, p2, c1⟩ := t_ofeuler n (2 * eul hd cp ms) (cp == 0) (.ref H.length) (.tup []) (k ++ (k ++ ms.flatten)) [] [] (H ++ [.lst (zs (k ++ (k ++ ms.flatten)))]) (.inr ⟨_, rfl, get_last⟩) (.inl rfl) .nil o
  refine ⟨k', ms', p1, p2, ?_⟩
  have x0 : ex cfg.G (S (n+7)) (.exp (.call 15 (.cons (.con (.str "full")) (.cons (.var 0) .nil)))) [some (.ref m), none, none, none] h = some (.nx [some (.ref m), none, none, none] h) := by
    simp [Z.run, exs, ex.eq_1, ex.eq_2, ex.eq_3, ex.eq_4, ex.eq_5, ex.eq_6, ex.eq_7, ex.eq_8, ex.eq_9, ex.eq_10, ev.eq_1, ev.eq_2, ev.eq_3, ev.eq_4, ev.eq_5, ev.eq_6, ev.eq_7, ev.eq_8, ev.eq_9, ev.eq_10, ev.eq_11, ev.eq_12, ev.eq_13, ev.eq_14, ev.eq_15, ev.eq_16, ev.eq_17, ev.eq_18, ev.eq_19, ev.eq_22, ev.eq_23, evs, evT, evI, st, sts, prim1, prim2, primN, startD, truth_bl, truth_int, truth_non, ixD, seqOf, itSeq, tyD, newL, line, keyOf, kget, gOk, wipeD, allBls, allInts, atI, ixN, gc_pre, gc_same, gcb1, gcb2, gci1, gci2, gcn1, gcn2, gcs1, gcs2, below_bl, below_int, below_non, below_str, below_tup, below_gd, belows, eqP_int, get_last, set_last, enumD, a0]
  have x1 : evT cfg.G (S (n+7)) (.val (.bin .eq (.fld 9 (.var 0)) (.tup .nil))) [some (.ref m), none, none, none] h = some (false, h) := by
    refine evT_val (ev_bin f9 ev_tup0 ?_)
    simp only [prim2, eqP_tt0, decide_eq_false hn]
  have x3 : ev cfg.G (S (n+7)) (.call 20 (.cons (.bin .mul (.con (.int 2)) (.umt 1 (.var 0) .nil)) (.cons (.umt 0 (.var 0) .nil) (.cons (.lst (.star (.fld 8 (.var 0)) (.star (.fld 8 (.var 0)) (.star (.var 1) .nil)))) (.cons (.tup .nil) .nil))))) [some (.ref m), some (.ref h.length), none, none] H = some (.ref (H ++ [O.lst (zs (k ++ (k ++ ms.flatten)))]).length, H ++ [O.lst (zs (k ++ (k ++ ms.flatten)))] ++ [fullO (heOf (cp == 0) (lack (2 * eul hd cp ms) 0)) (caOf (cp == 0) (lack (2 * eul hd cp ms) 0)) k' ms']) := by
    have e0 : ev cfg.G (S (n+7)) (.tup .nil) [some (.ref m), some (.ref h.length), none, none] (H ++ [O.lst (zs (k ++ (k ++ ms.flatten)))]) = some (.tup [], H ++ [O.lst (zs (k ++ (k ++ ms.flatten)))]) := ev_tup0
    have e1 : evs cfg.G (S (n+7)) (.cons (.bin .mul (.con (.int 2)) (.umt 1 (.var 0) .nil)) (.cons (.umt 0 (.var 0) .nil) (.cons (.lst (.star (.fld 8 (.var 0)) (.star (.fld 8 (.var 0)) (.star (.var 1) .nil)))) (.cons (.tup .nil) .nil)))) [some (.ref m), some (.ref h.length), none, none] H = some ([.int (2 * eul hd cp ms), .bl (cp == 0), .ref H.length, .tup []], H ++ [.lst (zs (k ++ (k ++ ms.flatten)))]) := by
      simp only [evs, a5, a3, a4, e0]
    exact ev_callE e1 c1
  rw [fn21]
  simp only [d21, DefT.fn, ir21]
  refine run_rt rfl (exs_nx x0 (exs_nx (ex_ite x1 (by rfl)) (exs_nx (ex_asg (i := 1) a1) (exs_rt (ex_ret x3))))) ?_
  rw [← hH, List.append_assoc h]
  exact gc_far below_full
theorem t_unfolded (n m : Nat) (hd cp : Int) (k : List Int) (ms : List (List Int)) (h : Hh) (q : FullAt h m hd cp k ms) (b1 : 0 ≤ hd ∧ hd ≤ 60) (b2 : 0 < cp ∧ cp ≤ 60) (b3 : ms.length ≤ 60) (l1 : k.length ≤ 1000)
    (o : OkF (heOf true (lack (2 * eul hd cp ms) (ms ++ ms.map List.reverse).length)) (caOf true (lack (2 * eul hd cp ms) (ms ++ ms.map List.reverse).length)) (k ++ k) (ms ++ ms.map List.reverse)) :
    ∃ k' ms', k'.Perm (k ++ k) ∧ Same ms' (ms ++ ms.map List.reverse) ∧ (S (n+8)).fn 22 [.ref m] h = some (.ref h.length, h ++ [fullO (heOf true (lack (2 * eul hd cp ms) (ms ++ ms.map List.reverse).length)) (caOf true (lack (2 * eul hd cp ms) (ms ++ ms.map List.reverse).length)) k' ms']) := by
  have a0 := t_needfull (n+6) "full" m hd cp k ms h q
  have c0 : (cp == 0) = false := by simp; omega
  have a3 := ev_umtF (cs := S (n+7)) (i := 0) (f := 0) (s := [some (.ref m), none, none]) rfl q (by decide) rfl (t_two (n+6) m hd cp k ms h q)
  rw [c0] at a3
  have f9 := ev_fldF (cs := S (n+7)) (i := 0) (f := 9) (s := [some (.ref m), none, none]) rfl q rfl rfl
  have a1 := ev_lc (G := cfg.G) (cs := S (n+7)) (it := .seq (.fld 9 (.var 0))) (t := .nm 2) (ifs := .yes) (e := .un .rev (.var 2)) (own := [2]) (s := [some (.ref m), none, none]) (h := h) (h1 := h) (xs := ms.map row) (g := [])
    (f := fun x => some (row (unz x).reverse)) (by simp only [evI, f9]; rfl) (fun x hx acc => by
      obtain ⟨r, hr, rfl⟩ := rows_mem hx
      refine ⟨[some (.ref m), none, some (row r)], by simp [Z.run, exs, ex.eq_1, ex.eq_2, ex.eq_3, ex.eq_4, ex.eq_5, ex.eq_6, ex.eq_7, ex.eq_8, ex.eq_9, ex.eq_10, ev.eq_1, ev.eq_2, ev.eq_3, ev.eq_4, ev.eq_5, ev.eq_6, ev.eq_7, ev.eq_8, ev.eq_9, ev.eq_10, ev.eq_11, ev.eq_12, ev.eq_13, ev.eq_14, ev.eq_15, ev.eq_16, ev.eq_17, ev.eq_18, ev.eq_19, ev.eq_22, ev.eq_23, evs, evT, evI, st, sts, prim1, prim2, primN, startD, truth_bl, truth_int, truth_non, ixD, seqOf, itSeq, tyD, newL, line, keyOf, kget, gOk, wipeD, allBls, allInts, atI, ixN, gc_pre, gc_same, gcb1, gcb2, gci1, gci2, gcn1, gcn2, gcs1, gcs2, below_bl, below_int, below_non, below_str, below_tup, below_gd, belows, eqP_int, get_last, set_last, enumD], .inl ⟨row r.reverse, by simp [Z.run, exs, ex.eq_1, ex.eq_2, ex.eq_3, ex.eq_4, ex.eq_5, ex.eq_6, ex.eq_7, ex.eq_8, ex.eq_9, ex.eq_10, ev.eq_1, ev.eq_2, ev.eq_3, ev.eq_4, ev.eq_5, ev.eq_6, ev.eq_7, ev.eq_8, ev.eq_9, ev.eq_10, ev.eq_11, ev.eq_12, ev.eq_13, ev.eq_14, ev.eq_15, ev.eq_16, ev.eq_17, ev.eq_18, ev.eq_19, ev.eq_22, ev.eq_23, evs, evT, evI, st, sts, prim1, prim2, primN, startD, truth_bl, truth_int, truth_non, ixD, seqOf, itSeq, tyD, newL, line, keyOf, kget, gOk, wipeD, allBls, allInts, atI, ixN, gc_pre, gc_same, gcb1, gcb2, gci1, gci2, gcn1, gcn2, gcs1, gcs2, below_bl, below_int, below_non, below_str, below_tup, below_gd, belows, eqP_int, get_last, set_last, enumD], ?_, by rw [unz_row]⟩⟩
      simp [Z.run, exs, ex.eq_1, ex.eq_2, ex.eq_3, ex.eq_4, ex.eq_5, ex.eq_6, ex.eq_7, ex.eq_8, ex.eq_9, ex.eq_10, ev.eq_1, ev.eq_2, ev.eq_3, ev.eq_4, ev.eq_5, ev.eq_6, ev.eq_7, ev.eq_8, ev.eq_9, ev.eq_10, ev.eq_11, ev.eq_12, ev.eq_13, ev.eq_14, ev.eq_15, ev.eq_16, ev.eq_17, ev.eq_18, ev.eq_19, ev.eq_22, ev.eq_23, evs, evT, evI, st, sts, prim1, prim2, primN, startD, truth_bl, truth_int, truth_non, ixD, seqOf, itSeq, tyD, newL, line, keyOf, kget, gOk, wipeD, allBls, allInts, atI, ixN, gc_pre, gc_same, gcb1, gcb2, gci1, gci2, gcn1, gcn2, gcs1, gcs2, below_bl, below_int, below_non, below_str, below_tup, below_gd, belows, eqP_int, get_last, set_last, enumD, rev_zs]) rfl (by simp [Z.line]; omega)
  rw [rows_fm (k := fun r => row r.reverse) fun r _ => by rw [unz_row]] at a1
  generalize hH : h ++ [O.lst (ms.map fun r => row r.reverse)] = H at *
  have hr : H[h.length]? = some (.lst (ms.map fun r => row r.reverse)) := by rw [← hH]; exact get_last
  have hl : (ms ++ ms.map List.reverse).length ≤ Z.line := by
    simp only [List.length_append, List.length_map]
    unfold Z.line
    omega
  have a4 : ev cfg.G (S (n+7)) (.lst (.star (.fld 9 (.var 0)) (.star (.lc (.seq (.fld 9 (.var 0))) (.nm 2) .yes (.un .rev (.var 2)) [2]) .nil))) [some (.ref m), none, none] h = some (.ref H.length, H ++ [.lst ((ms ++ ms.map List.reverse).map row)]) := by
    have s1 : seqOf h (.tup (ms.map row)) = some (ms.map row) := rfl
    have s2 : seqOf H (.ref h.length) = some (ms.map fun r => row r.reverse) := by simp [seqOf, hr]
    have e0 : evs cfg.G (S (n+7)) (.star (.fld 9 (.var 0)) (.star (.lc (.seq (.fld 9 (.var 0))) (.nm 2) .yes (.un .rev (.var 2)) [2]) .nil)) [some (.ref m), none, none] h = some ((ms ++ ms.map List.reverse).map row, H) := by
      simp only [evs, f9, s1, a1, s2, List.append_nil, List.map_append, List.map_map, Function.comp_def]
    rw [ev.eq_5, e0]
    simp only [List.length_map, hl, if_true, newL]
  generalize hK : H ++ [O.lst ((ms ++ ms.map List.reverse).map row)] = K at *
  have q1 : FullAt K m hd cp k ms := by rw [← hK, ← hH]; exact q.app.app
  have a2 := ev_umtF (cs := S (n+7)) (i := 0) (f := 1) (s := [some (.ref m), some (.ref H.length), none]) rfl q1 (by decide) rfl (t_euler (n+6) m hd cp k ms K q1 b1)
  have f8 := ev_fldF (cs := S (n+7)) (i := 0) (f := 8) (s := [some (.ref m), some (.ref H.length), none]) rfl q1 rfl rfl
  have hm : mulOk 2 (eul hd cp ms) = true := mulOk_of (by decide) (by unfold eul; omega)
  have a5 : ev cfg.G (S (n+7)) (.bin .mul (.con (.int 2)) (.umt 1 (.var 0) .nil)) [some (.ref m), some (.ref H.length), none] K = some (.int (2 * eul hd cp ms), K) := ev_bin (by rw [ev.eq_2]) a2 (by
    simp only [prim2]
    exact if_pos hm)
  have a6 : ev cfg.G (S (n+7)) (.bin .add (.fld 8 (.var 0)) (.fld 8 (.var 0))) [some (.ref m), some (.ref H.length), none] K = some (row (k ++ k), K) := ev_bin f8 f8 (by
    simp only [prim2, row, zs_len, zs_app]
    rw [if_pos (by unfold Z.line; omega)])
  have gK : K[H.length]? = some (.lst ((ms ++ ms.map List.reverse).map row)) := by rw [← hK]; exact get_last
  obtain ⟨k', ms', p1, p2, c1⟩ := t_ofeuler n (2 * eul hd cp ms) true (row (k ++ k)) (.ref H.length) (k ++ k) ((ms ++ ms.map List.reverse).map row) (ms ++ ms.map List.reverse) K (.inl rfl) (.inr ⟨_, rfl, gK⟩) (pwv_rows _) o
  refine ⟨k', ms', p1, p2, ?_⟩
  have x0 : ex cfg.G (S (n+7)) (.exp (.call 15 (.cons (.con (.str "full")) (.cons (.var 0) .nil)))) [some (.ref m), none, none] h = some (.nx [some (.ref m), none, none] h) := by
    simp [Z.run, exs, ex.eq_1, ex.eq_2, ex.eq_3, ex.eq_4, ex.eq_5, ex.eq_6, ex.eq_7, ex.eq_8, ex.eq_9, ex.eq_10, ev.eq_1, ev.eq_2, ev.eq_3, ev.eq_4, ev.eq_5, ev.eq_6, ev.eq_7, ev.eq_8, ev.eq_9, ev.eq_10, ev.eq_11, ev.eq_12, ev.eq_13, ev.eq_14, ev.eq_15, ev.eq_16, ev.eq_17, ev.eq_18, ev.eq_19, ev.eq_22, ev.eq_23, evs, evT, evI, st, sts, prim1, prim2, primN, startD, truth_bl, truth_int, truth_non, ixD, seqOf, itSeq, tyD, newL, line, keyOf, kget, gOk, wipeD, allBls, allInts, atI, ixN, gc_pre, gc_same, gcb1, gcb2, gci1, gci2, gcn1, gcn2, gcs1, gcs2, below_bl, below_int, below_non, below_str, below_tup, below_gd, belows, eqP_int, get_last, set_last, enumD, a0]
  have x3 : ev cfg.G (S (n+7)) (.call 20 (.cons (.bin .mul (.con (.int 2)) (.umt 1 (.var 0) .nil)) (.cons (.con (.bl true)) (.cons (.bin .add (.fld 8 (.var 0)) (.fld 8 (.var 0))) (.cons (.var 1) .nil))))) [some (.ref m), some (.ref H.length), none] K = some (.ref K.length, K ++ [fullO (heOf true (lack (2 * eul hd cp ms) (ms ++ ms.map List.reverse).length)) (caOf true (lack (2 * eul hd cp ms) (ms ++ ms.map List.reverse).length)) k' ms']) := by
    have v1 := ev_var (G := cfg.G) (cs := S (n+7)) (k := 1) (s := [some (.ref m), some (.ref H.length), none]) (h := K) rfl
    have e1 : evs cfg.G (S (n+7)) (.cons (.bin .mul (.con (.int 2)) (.umt 1 (.var 0) .nil)) (.cons (.con (.bl true)) (.cons (.bin .add (.fld 8 (.var 0)) (.fld 8 (.var 0))) (.cons (.var 1) .nil)))) [some (.ref m), some (.ref H.length), none] K = some ([.int (2 * eul hd cp ms), .bl true, row (k ++ k), .ref H.length], K) := by
      simp only [evs, a5, a6, v1, ev.eq_2]
    exact ev_callE e1 c1
  rw [fn22]
  simp only [d22, DefT.fn, ir22]
  refine run_rt rfl (exs_nx x0 (exs_nx (ex_ite (evT_val a3) (by rfl)) (exs_nx (ex_asg (i := 1) a4) (exs_rt (ex_ret x3))))) ?_
  rw [← hK, ← hH, List.append_assoc h]
  exact gc_far below_full
end K14
end

-- M25
section
set_option Elab.async false
set_option linter.all false
set_option maxRecDepth 100000
set_option maxHeartbeats 1000000
namespace K14
open PySem L2 Z
/-! ### the pen -/
def penL (q a b : D) : List (Z.Key × D) := [(.inr "row", q), (.inr "at", a), (.inr "rest", b)]
theorem k_row {q a b : D} : kget (Sum.inr ("row" : Str) : Z.Key) (penL q a b) = some q := rfl
theorem k_at {q a b : D} : kget (Sum.inr ("at" : Str) : Z.Key) (penL q a b) = some a := rfl
theorem k_rest {q a b : D} : kget (Sum.inr ("rest" : Str) : Z.Key) (penL q a b) = some b := rfl
theorem p_at {q a b v : D} : kput (Sum.inr ("at" : Str) : Z.Key) v (penL q a b) = penL q v b := rfl
theorem p_rest {q a b v : D} : kput (Sum.inr ("rest" : Str) : Z.Key) v (penL q a b) = penL q a v := rfl
theorem p_len {q a b : D} : (penL q a b).length = 3 := rfl
def penO (q : Nat) (a b : Int) : O := .dK (penL (.ref q) (.int a) (.int b))
def Pen (h : Hh) (p : Nat) (c : Int) : Prop := ∃ q a b l, h[p]? = some (penO q a b) ∧ h[q]? = some (.lst (zs l)) ∧ 0 ≤ a ∧ a ≤ c ∧ q = 2
theorem stable_of {n : Nat} {h h' : Hh} (e : ∀ (i : Nat) (o o' : O), h[i]? = some o → h'[i]? = some o' → o = o' ∨ belowO n o' = true) : stable n h h' = true := by
  unfold stable
  rw [List.all_eq_true]
  intro x hx
  obtain ⟨i, hi⟩ := List.mem_iff_getElem?.mp hx
  rw [List.getElem?_zip_eq_some] at hi
  rcases e i x.1 x.2 hi.1 hi.2 with q | q
  · simp [q]
  · simp [q]
theorem set_get {h : Hh} {p i : Nat} {o o' : O} (e : (h.set p o)[i]? = some o') : (p = i ∧ o' = o) ∨ (p ≠ i ∧ h[i]? = some o') := by
  rw [List.getElem?_set] at e
  split at e
  · split at e
    · exact .inl ⟨by assumption, (Option.some.inj e).symm⟩
    · exact absurd e (by simp)
  · exact .inr ⟨by assumption, e⟩
theorem gc_pen {h t : Hh} {p : Nat} {o : O} {v : D} (hb : belowO h.length o = true) (hv : below h.length v = true) : gc h (v, h.set p o ++ t) = (v, h.set p o) := by
  have hs : stable h.length h (h.set p o ++ t) = true := stable_of fun i x y e1 e2 => by
    have hl := (List.getElem?_eq_some_iff.mp e1).1
    rw [List.getElem?_append_left (by simpa using hl)] at e2
    rcases set_get e2 with ⟨_, rfl⟩ | ⟨_, e3⟩
    · exact .inr hb
    · rw [e1] at e3
      exact .inl (Option.some.inj e3)
  unfold gc
  simp only [hs, hv, if_true]
  rw [List.take_left' (by simp)]
theorem atI_some {α : Type} {xs : List α} {i : Int} (h0 : 0 ≤ i) (h1 : i < xs.length) : ∃ x, atI xs i = some x ∧ x ∈ xs := by
  have e : atI xs i = xs[i.toNat]? := by
    simp [atI, ixN, h0, h1]
  have hl : i.toNat < xs.length := by omega
  exact ⟨xs[i.toNat], by rw [e, List.getElem?_eq_getElem hl], List.getElem_mem hl⟩
theorem fmod_b {i m : Int} (h : 0 < m) : 0 ≤ i.fmod m ∧ i.fmod m < m := ⟨Int.fmod_nonneg_of_pos i h, Int.fmod_lt_of_pos i h⟩
theorem toP_lst {h : Hh} {n : Nat} {l : List Int} (e : h[n]? = some (.lst (zs l))) : toP h (.ref n) = some (lI l) := by
  simp [toP, toPW, refP, e, toPWs_zs, lI]
theorem eqP_lst {h : Hh} {n m : Nat} {l k : List Int} (e1 : h[n]? = some (.lst (zs l))) (e2 : h[m]? = some (.lst (zs k))) : eqP h (.ref n) (.ref m) = some (decide (l = k)) := by
  have h1 := dep_lI l
  have h2 := dep_lI k
  rw [eqP_of (toP_lst e1) (toP_lst e2) (can_lI l) (can_lI k) (by omega) (by omega), eqv_lI]
theorem fn28 (n vs h) : (S (n+1)).fn 28 vs h = Z.run cfg.G (S n) d28.fn vs h := rfl
theorem t_draw (n p : Nat) (c m : Int) (h : Hh) (P : Pen h p c) (m0 : 0 < m) (m1 : m < 1000000) (hc : c < 1000000) :
    ∃ i o, 0 ≤ i ∧ i < m ∧ (S (n+1)).fn 28 [.ref p, .int m] h = some (.int i, h.set p o) ∧ Pen (h.set p o) p (c+1) := by
  obtain ⟨q, a, b, l, e1, e2, a0, a1, q2⟩ := P
  have hp := (List.getElem?_eq_some_iff.mp e1).1
  have hq := (List.getElem?_eq_some_iff.mp e2).1
  have ne : p ≠ q := fun e => by
    subst e
    rw [e1] at e2
    simp [penO] at e2
  have hdm : divOk m = true := divOk_of (by omega) (by omega)
  have m00 : m ≠ 0 := by omega
  have bel : ∀ x y : Int, belowO h.length (penO q x y) = true := fun x y => by simp [penO, penL, belowO, belows, below, hq]
  have pen : ∀ x y : Int, 0 ≤ x → x ≤ c + 1 → Pen (h.set p (penO q x y)) p (c+1) := fun x y x0 x1 => ⟨q, x, y, l, by simp [hp], by rw [List.getElem?_set_ne ne]; exact e2, x0, x1, q2⟩
  have e1' : h[p]? = some (.dK (penL (.ref q) (.int a) (.int b))) := e1
  rw [fn28]
  simp only [d28, DefT.fn, ir28]
  by_cases hb : 0 < b
  · refine ⟨b.fmod m, penO q a (b.fdiv m), (fmod_b m0).1, (fmod_b m0).2, ?_, pen _ _ a0 (by omega)⟩
    have t1 : evT cfg.G (S n) (.val (.bin .gt (.bin .ix (.var 0) (.con (.str "rest"))) (.con (.int 0)))) [some (.ref p), some (.int m), none, none, none, none, none, none] h = some (true, h) := by
      simp [Z.run, exs, ex.eq_1, ex.eq_2, ex.eq_3, ex.eq_4, ex.eq_5, ex.eq_6, ex.eq_7, ex.eq_8, ex.eq_9, ex.eq_10, ev.eq_1, ev.eq_2, ev.eq_3, ev.eq_4, ev.eq_5, ev.eq_6, ev.eq_7, ev.eq_8, ev.eq_9, ev.eq_10, ev.eq_11, ev.eq_12, ev.eq_13, ev.eq_14, ev.eq_15, ev.eq_16, ev.eq_17, ev.eq_18, ev.eq_19, ev.eq_22, ev.eq_23, evs, evT, evI, st, sts, prim1, prim2, primN, startD, truth_bl, truth_int, truth_non, ixD, seqOf, itSeq, tyD, newL, line, keyOf, kget, gOk, wipeD, allBls, allInts, atI, ixN, gc_pre, gc_same, gcb1, gcb2, gci1, gci2, gcn1, gcn2, gcs1, gcs2, below_bl, below_int, below_non, below_str, below_tup, below_gd, belows, eqP_int, get_last, set_last, enumD, e1', k_rest, hb]
    refine run_rt rfl (exs_rt (ex_ite t1 (exs_nx (s2 := [some (.ref p), some (.int m), some (.int (b.fmod m)), none, none, none, none, none]) (h2 := h) ?_ (exs_nx (s2 := [some (.ref p), some (.int m), some (.int (b.fmod m)), none, none, none, none, none]) (h2 := h.set p (penO q a (b.fdiv m))) ?_ (exs_rt (v := .int (b.fmod m)) (h2 := h.set p (penO q a (b.fdiv m))) ?_))))) ?_
    · simp [Z.run, exs, ex.eq_1, ex.eq_2, ex.eq_3, ex.eq_4, ex.eq_5, ex.eq_6, ex.eq_7, ex.eq_8, ex.eq_9, ex.eq_10, ev.eq_1, ev.eq_2, ev.eq_3, ev.eq_4, ev.eq_5, ev.eq_6, ev.eq_7, ev.eq_8, ev.eq_9, ev.eq_10, ev.eq_11, ev.eq_12, ev.eq_13, ev.eq_14, ev.eq_15, ev.eq_16, ev.eq_17, ev.eq_18, ev.eq_19, ev.eq_22, ev.eq_23, evs, evT, evI, st, sts, prim1, prim2, primN, startD, truth_bl, truth_int, truth_non, ixD, seqOf, itSeq, tyD, newL, line, keyOf, kget, gOk, wipeD, allBls, allInts, atI, ixN, gc_pre, gc_same, gcb1, gcb2, gci1, gci2, gcn1, gcn2, gcs1, gcs2, below_bl, below_int, below_non, below_str, below_tup, below_gd, belows, eqP_int, get_last, set_last, enumD, e1', k_rest, m00]
    · simp [Z.run, exs, ex.eq_1, ex.eq_2, ex.eq_3, ex.eq_4, ex.eq_5, ex.eq_6, ex.eq_7, ex.eq_8, ex.eq_9, ex.eq_10, ev.eq_1, ev.eq_2, ev.eq_3, ev.eq_4, ev.eq_5, ev.eq_6, ev.eq_7, ev.eq_8, ev.eq_9, ev.eq_10, ev.eq_11, ev.eq_12, ev.eq_13, ev.eq_14, ev.eq_15, ev.eq_16, ev.eq_17, ev.eq_18, ev.eq_19, ev.eq_22, ev.eq_23, evs, evT, evI, st, sts, prim1, prim2, primN, startD, truth_bl, truth_int, truth_non, ixD, seqOf, itSeq, tyD, newL, line, keyOf, kget, gOk, wipeD, allBls, allInts, atI, ixN, gc_pre, gc_same, gcb1, gcb2, gci1, gci2, gcn1, gcn2, gcs1, gcs2, below_bl, below_int, below_non, below_str, below_tup, below_gd, belows, eqP_int, get_last, set_last, enumD, e1', k_rest, hdm, p_rest, penO, p_len]
    · simp [Z.run, exs, ex.eq_1, ex.eq_2, ex.eq_3, ex.eq_4, ex.eq_5, ex.eq_6, ex.eq_7, ex.eq_8, ex.eq_9, ex.eq_10, ev.eq_1, ev.eq_2, ev.eq_3, ev.eq_4, ev.eq_5, ev.eq_6, ev.eq_7, ev.eq_8, ev.eq_9, ev.eq_10, ev.eq_11, ev.eq_12, ev.eq_13, ev.eq_14, ev.eq_15, ev.eq_16, ev.eq_17, ev.eq_18, ev.eq_19, ev.eq_22, ev.eq_23, evs, evT, evI, st, sts, prim1, prim2, primN, startD, truth_bl, truth_int, truth_non, ixD, seqOf, itSeq, tyD, newL, line, keyOf, kget, gOk, wipeD, allBls, allInts, atI, ixN, gc_pre, gc_same, gcb1, gcb2, gci1, gci2, gcn1, gcn2, gcs1, gcs2, below_bl, below_int, below_non, below_str, below_tup, below_gd, belows, eqP_int, get_last, set_last, enumD]
    · have := gc_pen (h := h) (t := []) (p := p) (v := .int (b.fmod m)) (bel a (b.fdiv m)) rfl
      simpa using this
  · have f1 : (h.set p (penO q (a+1) b))[p]? = some (.dK (penL (.ref q) (.int (a+1)) (.int b))) := by simp [hp, penO]
    have f2 : (h.set p (penO q (a+1) b))[q]? = some (.lst (zs l)) := by rw [List.getElem?_set_ne ne]; exact e2
    have lk : (h.set p (penO q (a+1) b)).length = h.length := by simp
    generalize hk : h.set p (penO q (a+1) b) = k at *
    have g1 : (k ++ [.lst []])[p]? = some (.dK (penL (.ref q) (.int (a+1)) (.int b))) := app_at f1
    have g2 : (k ++ [.lst []])[q]? = some (.lst (zs l)) := app_at f2
    have x1 : evT cfg.G (S n) (.val (.bin .gt (.bin .ix (.var 0) (.con (.str "rest"))) (.con (.int 0)))) [some (.ref p), some (.int m), none, none, none, none, none, none] h = some (false, h) := by
      simp [Z.run, exs, ex.eq_1, ex.eq_2, ex.eq_3, ex.eq_4, ex.eq_5, ex.eq_6, ex.eq_7, ex.eq_8, ex.eq_9, ex.eq_10, ev.eq_1, ev.eq_2, ev.eq_3, ev.eq_4, ev.eq_5, ev.eq_6, ev.eq_7, ev.eq_8, ev.eq_9, ev.eq_10, ev.eq_11, ev.eq_12, ev.eq_13, ev.eq_14, ev.eq_15, ev.eq_16, ev.eq_17, ev.eq_18, ev.eq_19, ev.eq_22, ev.eq_23, evs, evT, evI, st, sts, prim1, prim2, primN, startD, truth_bl, truth_int, truth_non, ixD, seqOf, itSeq, tyD, newL, line, keyOf, kget, gOk, wipeD, allBls, allInts, atI, ixN, gc_pre, gc_same, gcb1, gcb2, gci1, gci2, gcn1, gcn2, gcs1, gcs2, below_bl, below_int, below_non, below_str, below_tup, below_gd, belows, eqP_int, get_last, set_last, enumD, e1', k_rest, hb]
    have x2 : ex cfg.G (S n) (.asg (.tp (.cons (.nm 3) (.cons (.nm 4) .nil))) (.tup (.cons (.app .toInt (.cons (.bin .ix (.var 0) (.con (.str "at"))) .nil)) (.cons (.bin .ix (.var 0) (.con (.str "row"))) .nil)))) [some (.ref p), some (.int m), none, none, none, none, none, none] h = some (.nx [some (.ref p), some (.int m), none, some (.int a), some (.ref q), none, none, none] h) := by
      simp [Z.run, exs, ex.eq_1, ex.eq_2, ex.eq_3, ex.eq_4, ex.eq_5, ex.eq_6, ex.eq_7, ex.eq_8, ex.eq_9, ex.eq_10, ev.eq_1, ev.eq_2, ev.eq_3, ev.eq_4, ev.eq_5, ev.eq_6, ev.eq_7, ev.eq_8, ev.eq_9, ev.eq_10, ev.eq_11, ev.eq_12, ev.eq_13, ev.eq_14, ev.eq_15, ev.eq_16, ev.eq_17, ev.eq_18, ev.eq_19, ev.eq_22, ev.eq_23, evs, evT, evI, st, sts, prim1, prim2, primN, startD, truth_bl, truth_int, truth_non, ixD, seqOf, itSeq, tyD, newL, line, keyOf, kget, gOk, wipeD, allBls, allInts, atI, ixN, gc_pre, gc_same, gcb1, gcb2, gci1, gci2, gcn1, gcn2, gcs1, gcs2, below_bl, below_int, below_non, below_str, below_tup, below_gd, belows, eqP_int, get_last, set_last, enumD, e1', k_at, k_row]
    have x3 : ex cfg.G (S n) (.asg (.sub (.var 0) (.con (.str "at"))) (.bin .add (.var 3) (.con (.int 1)))) [some (.ref p), some (.int m), none, some (.int a), some (.ref q), none, none, none] h = some (.nx [some (.ref p), some (.int m), none, some (.int a), some (.ref q), none, none, none] k) := by
      simp [Z.run, exs, ex.eq_1, ex.eq_2, ex.eq_3, ex.eq_4, ex.eq_5, ex.eq_6, ex.eq_7, ex.eq_8, ex.eq_9, ex.eq_10, ev.eq_1, ev.eq_2, ev.eq_3, ev.eq_4, ev.eq_5, ev.eq_6, ev.eq_7, ev.eq_8, ev.eq_9, ev.eq_10, ev.eq_11, ev.eq_12, ev.eq_13, ev.eq_14, ev.eq_15, ev.eq_16, ev.eq_17, ev.eq_18, ev.eq_19, ev.eq_22, ev.eq_23, evs, evT, evI, st, sts, prim1, prim2, primN, startD, truth_bl, truth_int, truth_non, ixD, seqOf, itSeq, tyD, newL, line, keyOf, kget, gOk, wipeD, allBls, allInts, atI, ixN, gc_pre, gc_same, gcb1, gcb2, gci1, gci2, gcn1, gcn2, gcs1, gcs2, below_bl, below_int, below_non, below_str, below_tup, below_gd, belows, eqP_int, get_last, set_last, enumD, e1', p_at, p_len]
      rw [← hk]
      rfl
    obtain ⟨w, x4⟩ : ∃ w : Int, ex cfg.G (S n) (.asg (.nm 5) (.ite (.val (.bin .ne (.var 4) (.lst .nil))) (.bin .ix (.var 4) (.bin .mod (.var 3) (.app .len (.cons (.var 4) .nil)))) (.bin .add (.bin .mul (.con (.int 4253)) (.var 3)) (.con (.int 93))))) [some (.ref p), some (.int m), none, some (.int a), some (.ref q), none, none, none] k = some (.nx [some (.ref p), some (.int m), none, some (.int a), some (.ref q), some (.int w), none, none] (k ++ [.lst []])) := by
      have c0 : ev cfg.G (S n) (.lst .nil) [some (.ref p), some (.int m), none, some (.int a), some (.ref q), none, none, none] k = some (.ref k.length, k ++ [.lst []]) := by
        simp [Z.run, exs, ex.eq_1, ex.eq_2, ex.eq_3, ex.eq_4, ex.eq_5, ex.eq_6, ex.eq_7, ex.eq_8, ex.eq_9, ex.eq_10, ev.eq_1, ev.eq_2, ev.eq_3, ev.eq_4, ev.eq_5, ev.eq_6, ev.eq_7, ev.eq_8, ev.eq_9, ev.eq_10, ev.eq_11, ev.eq_12, ev.eq_13, ev.eq_14, ev.eq_15, ev.eq_16, ev.eq_17, ev.eq_18, ev.eq_19, ev.eq_22, ev.eq_23, evs, evT, evI, st, sts, prim1, prim2, primN, startD, truth_bl, truth_int, truth_non, ixD, seqOf, itSeq, tyD, newL, line, keyOf, kget, gOk, wipeD, allBls, allInts, atI, ixN, gc_pre, gc_same, gcb1, gcb2, gci1, gci2, gcn1, gcn2, gcs1, gcs2, below_bl, below_int, below_non, below_str, below_tup, below_gd, belows, eqP_int, get_last, set_last, enumD]
      have c1 : evT cfg.G (S n) (.val (.bin .ne (.var 4) (.lst .nil))) [some (.ref p), some (.int m), none, some (.int a), some (.ref q), none, none, none] k = some (!decide (l = []), k ++ [.lst []]) := by
        refine evT_val (ev_bin (ev_var rfl) c0 ?_)
        have e := eqP_lst (k := []) g2 (get_last (h := k) (o := .lst []))
        simp only [prim2, e]
      by_cases hl : l = []
      · refine ⟨4253 * a + 93, ex_asg (i := 5) (evT_ite c1 ?_)⟩
        have hm : mulOk 4253 a = true := mulOk_of (by decide) (by omega)
        simp [Z.run, exs, ex.eq_1, ex.eq_2, ex.eq_3, ex.eq_4, ex.eq_5, ex.eq_6, ex.eq_7, ex.eq_8, ex.eq_9, ex.eq_10, ev.eq_1, ev.eq_2, ev.eq_3, ev.eq_4, ev.eq_5, ev.eq_6, ev.eq_7, ev.eq_8, ev.eq_9, ev.eq_10, ev.eq_11, ev.eq_12, ev.eq_13, ev.eq_14, ev.eq_15, ev.eq_16, ev.eq_17, ev.eq_18, ev.eq_19, ev.eq_22, ev.eq_23, evs, evT, evI, st, sts, prim1, prim2, primN, startD, truth_bl, truth_int, truth_non, ixD, seqOf, itSeq, tyD, newL, line, keyOf, kget, gOk, wipeD, allBls, allInts, atI, ixN, gc_pre, gc_same, gcb1, gcb2, gci1, gci2, gcn1, gcn2, gcs1, gcs2, below_bl, below_int, below_non, below_str, below_tup, below_gd, belows, eqP_int, get_last, set_last, enumD, hl, hm]
      · have hl0 : 0 < (l.length : Int) := by
          have := List.length_pos_iff.mpr hl
          omega
        have hl1 : (l.length : Int) ≠ 0 := by omega
        obtain ⟨y, hy, hy2⟩ := atI_some (xs := zs l) (i := a.fmod l.length) (fmod_b hl0).1 (by rw [zs_len]; exact (fmod_b hl0).2)
        obtain ⟨w, _, rfl⟩ := zs_mem hy2
        refine ⟨w, ex_asg (i := 5) (evT_ite c1 ?_)⟩
        have hl2 : ¬ ((l.length : Int) = 0) := hl1
        simp only [hl, decide_false, Bool.not_false, if_true]
        have d1 : ev cfg.G (S n) (.app .len (.cons (.var 4) .nil)) [some (.ref p), some (.int m), none, some (.int a), some (.ref q), none, none, none] (k ++ [.lst []]) = some (.int l.length, k ++ [.lst []]) := ev_app1 (ev_var rfl) (by simp only [prim1, g2, zs_len])
        refine ev_bin (ev_var rfl) (ev_bin (r := some (.int (a.fmod l.length), k ++ [.lst []])) (ev_var rfl) d1 ?_) ?_
        · simp only [prim2, hl1, ne_eq, not_false_eq_true, if_true]
        · simp only [prim2, ixD, g2, hy]
    have x5 : ex cfg.G (S n) (.asg (.nm 6) (.ite (.and (.val (.un .isInt (.var 5))) (.not (.val (.un .isBool (.var 5))))) (.var 5) (.con (.int 159)))) [some (.ref p), some (.int m), none, some (.int a), some (.ref q), some (.int w), none, none] (k ++ [.lst []]) = some (.nx [some (.ref p), some (.int m), none, some (.int a), some (.ref q), some (.int w), some (.int w), none] (k ++ [.lst []])) := by
      simp [Z.run, exs, ex.eq_1, ex.eq_2, ex.eq_3, ex.eq_4, ex.eq_5, ex.eq_6, ex.eq_7, ex.eq_8, ex.eq_9, ex.eq_10, ev.eq_1, ev.eq_2, ev.eq_3, ev.eq_4, ev.eq_5, ev.eq_6, ev.eq_7, ev.eq_8, ev.eq_9, ev.eq_10, ev.eq_11, ev.eq_12, ev.eq_13, ev.eq_14, ev.eq_15, ev.eq_16, ev.eq_17, ev.eq_18, ev.eq_19, ev.eq_22, ev.eq_23, evs, evT, evI, st, sts, prim1, prim2, primN, startD, truth_bl, truth_int, truth_non, ixD, seqOf, itSeq, tyD, newL, line, keyOf, kget, gOk, wipeD, allBls, allInts, atI, ixN, gc_pre, gc_same, gcb1, gcb2, gci1, gci2, gcn1, gcn2, gcs1, gcs2, below_bl, below_int, below_non, below_str, below_tup, below_gd, belows, eqP_int, get_last, set_last, enumD]
    have d1 : ev cfg.G (S n) (.app .len (.cons (.var 4) .nil)) [some (.ref p), some (.int m), none, some (.int a), some (.ref q), some (.int w), some (.int w), none] (k ++ [.lst []]) = some (.int l.length, k ++ [.lst []]) := ev_app1 (ev_var rfl) (by simp only [prim1, g2, zs_len])
    obtain ⟨W, hW⟩ : ∃ W : Int, W = if w < 0 then -w else w := ⟨_, rfl⟩
    have d2 : ∀ o, ev cfg.G (S n) (.app .abs (.cons (.var 6) .nil)) [some (.ref p), some (.int m), none, some (.int a), some (.ref q), some (.int w), some (.int w), o] (k ++ [.lst []]) = some (.int W, k ++ [.lst []]) := fun o => ev_app1 (ev_var rfl) (by simp only [prim1, hW])
    have d3 : ev cfg.G (S n) (.bin .pow (.con (.int 10)) (.con (.int 17))) [some (.ref p), some (.int m), none, some (.int a), some (.ref q), some (.int w), some (.int w), none] (k ++ [.lst []]) = some (.int (10 ^ 17), k ++ [.lst []]) := by
      refine ev_bin (by rw [ev.eq_2]) (by rw [ev.eq_2]) ?_
      simp only [prim2]
      exact if_pos (by decide)
    have d4 : ev cfg.G (S n) (.bin .lt (.var 3) (.app .len (.cons (.var 4) .nil))) [some (.ref p), some (.int m), none, some (.int a), some (.ref q), some (.int w), some (.int w), none] (k ++ [.lst []]) = some (.bl (decide (a < l.length)), k ++ [.lst []]) := ev_bin (ev_var rfl) d1 rfl
    have d5 : ev cfg.G (S n) (.bin .gt (.app .abs (.cons (.var 6) .nil)) (.bin .pow (.con (.int 10)) (.con (.int 17)))) [some (.ref p), some (.int m), none, some (.int a), some (.ref q), some (.int w), some (.int w), none] (k ++ [.lst []]) = some (.bl (decide ((10 ^ 17 : Int) < W)), k ++ [.lst []]) := ev_bin (d2 _) d3 rfl
    have x6 : evT cfg.G (S n) (.and (.val (.bin .lt (.var 3) (.app .len (.cons (.var 4) .nil)))) (.val (.bin .gt (.app .abs (.cons (.var 6) .nil)) (.bin .pow (.con (.int 10)) (.con (.int 17)))))) [some (.ref p), some (.int m), none, some (.int a), some (.ref q), some (.int w), some (.int w), none] (k ++ [.lst []]) = some (decide (a < l.length) && decide ((10 ^ 17 : Int) < W), k ++ [.lst []]) := by
      rw [evT.eq_3, evT_val d4]
      cases decide (a < l.length) with
      | false => rfl
      | true =>
        simp only [Bool.true_and]
        exact evT_val d5
    have hset : ∀ y : Int, (k ++ [O.lst []]).set p (penO q (a+1) y) = h.set p (penO q (a+1) y) ++ [O.lst []] := fun y => by
      rw [← hk, List.set_append_left _ _ (by simpa using hp), List.set_set]
    cases hx : (decide (a < l.length) && decide ((10 ^ 17 : Int) < W)) with
    | true =>
      rw [hx] at x6
      refine ⟨W.fmod m, penO q (a+1) (W.fdiv m), (fmod_b m0).1, (fmod_b m0).2, ?_, pen _ _ (by omega) (by omega)⟩
      have y1 : ex cfg.G (S n) (.asg (.sub (.var 0) (.con (.str "rest"))) (.bin .fdiv (.app .abs (.cons (.var 6) .nil)) (.var 1))) [some (.ref p), some (.int m), none, some (.int a), some (.ref q), some (.int w), some (.int w), none] (k ++ [.lst []]) = some (.nx [some (.ref p), some (.int m), none, some (.int a), some (.ref q), some (.int w), some (.int w), none] (h.set p (penO q (a+1) (W.fdiv m)) ++ [.lst []])) := by
        have c : ev cfg.G (S n) (.bin .fdiv (.app .abs (.cons (.var 6) .nil)) (.var 1)) [some (.ref p), some (.int m), none, some (.int a), some (.ref q), some (.int w), some (.int w), none] (k ++ [.lst []]) = some (.int (W.fdiv m), k ++ [.lst []]) := ev_bin (d2 _) (ev_var rfl) (by simp only [prim2, hdm, if_true])
        rw [← hset]
        simp only [ex, c]
        simp [Z.run, exs, ex.eq_1, ex.eq_2, ex.eq_3, ex.eq_4, ex.eq_5, ex.eq_6, ex.eq_7, ex.eq_8, ex.eq_9, ex.eq_10, ev.eq_1, ev.eq_2, ev.eq_3, ev.eq_4, ev.eq_5, ev.eq_6, ev.eq_7, ev.eq_8, ev.eq_9, ev.eq_10, ev.eq_11, ev.eq_12, ev.eq_13, ev.eq_14, ev.eq_15, ev.eq_16, ev.eq_17, ev.eq_18, ev.eq_19, ev.eq_22, ev.eq_23, evs, evT, evI, st, sts, prim1, prim2, primN, startD, truth_bl, truth_int, truth_non, ixD, seqOf, itSeq, tyD, newL, line, keyOf, kget, gOk, wipeD, allBls, allInts, atI, ixN, gc_pre, gc_same, gcb1, gcb2, gci1, gci2, gcn1, gcn2, gcs1, gcs2, below_bl, below_int, below_non, below_str, below_tup, below_gd, belows, eqP_int, get_last, set_last, enumD, g1, p_rest, p_len]
        rfl
      have y2 : ev cfg.G (S n) (.bin .mod (.app .abs (.cons (.var 6) .nil)) (.var 1)) [some (.ref p), some (.int m), none, some (.int a), some (.ref q), some (.int w), some (.int w), none] (h.set p (penO q (a+1) (W.fdiv m)) ++ [.lst []]) = some (.int (W.fmod m), h.set p (penO q (a+1) (W.fdiv m)) ++ [.lst []]) := ev_bin (ev_app1 (r := some (.int W, h.set p (penO q (a+1) (W.fdiv m)) ++ [.lst []])) (ev_var rfl) (by simp only [prim1, hW])) (ev_var rfl) (by simp only [prim2, m00, ne_eq, not_false_eq_true, if_true])
      exact run_rt rfl (exs_nx (ex_ite x1 (by rfl)) (exs_nx x2 (exs_nx x3 (exs_nx x4 (exs_nx x5 (exs_rt (ex_ite x6 (exs_nx y1 (exs_rt (ex_ret y2)))))))))) (gc_pen (bel _ _) rfl)
    | false =>
      rw [hx] at x6
      obtain ⟨v1, hv1⟩ : ∃ v : Int, v = (W.fmod 1000003 + 5849 * a + 59).fmod 1000003 := ⟨_, rfl⟩
      obtain ⟨v2, hv2⟩ : ∃ v : Int, v = ((v1 * v1).fmod 1000003 * (a + 7) + 4253).fmod 1000003 := ⟨_, rfl⟩
      obtain ⟨v3, hv3⟩ : ∃ v : Int, v = (v2 * v2 + 5849 * (a + 1)).fmod 1000003 := ⟨_, rfl⟩
      have bb : ∀ x : Int, 0 ≤ x.fmod 1000003 ∧ x.fmod 1000003 < 1000003 := fun x => fmod_b (by decide)
      have r1 : 0 ≤ v1 ∧ v1 < 1000003 := hv1 ▸ bb _
      have r2 : 0 ≤ v2 ∧ v2 < 1000003 := hv2 ▸ bb _
      have r4 := bb (v1 * v1)
      have m1 : mulOk 5849 a = true := mulOk_of (by decide) (by omega)
      have m2 : mulOk v1 v1 = true := mulOk_of (by omega) (by omega)
      have m3 : mulOk ((v1 * v1).fmod 1000003) (a + 7) = true := mulOk_of (by omega) (by omega)
      have m4 : mulOk v2 v2 = true := mulOk_of (by omega) (by omega)
      have m5 : mulOk 5849 (a + 1) = true := mulOk_of (by decide) (by omega)
      have d5 : divOk 5 = true := by decide
      have hW2 : (if w < 0 then -w else w) = W := hW.symm
      refine ⟨(v3.fdiv 5).fmod m, penO q (a+1) b, (fmod_b m0).1, (fmod_b m0).2, ?_, pen _ _ (by omega) (by omega)⟩
      have y1 : ex cfg.G (S n) (.asg (.nm 7) (.bin .mod (.bin .add (.bin .add (.bin .mod (.app .abs (.cons (.app .toInt (.cons (.var 6) .nil)) .nil)) (.con (.int 1000003))) (.bin .mul (.con (.int 5849)) (.var 3))) (.con (.int 59))) (.con (.int 1000003)))) [some (.ref p), some (.int m), none, some (.int a), some (.ref q), some (.int w), some (.int w), none] (k ++ [.lst []]) = some (.nx [some (.ref p), some (.int m), none, some (.int a), some (.ref q), some (.int w), some (.int w), some (.int v1)] (k ++ [.lst []])) := by
        simp [Z.run, exs, ex.eq_1, ex.eq_2, ex.eq_3, ex.eq_4, ex.eq_5, ex.eq_6, ex.eq_7, ex.eq_8, ex.eq_9, ex.eq_10, ev.eq_1, ev.eq_2, ev.eq_3, ev.eq_4, ev.eq_5, ev.eq_6, ev.eq_7, ev.eq_8, ev.eq_9, ev.eq_10, ev.eq_11, ev.eq_12, ev.eq_13, ev.eq_14, ev.eq_15, ev.eq_16, ev.eq_17, ev.eq_18, ev.eq_19, ev.eq_22, ev.eq_23, evs, evT, evI, st, sts, prim1, prim2, primN, startD, truth_bl, truth_int, truth_non, ixD, seqOf, itSeq, tyD, newL, line, keyOf, kget, gOk, wipeD, allBls, allInts, atI, ixN, gc_pre, gc_same, gcb1, gcb2, gci1, gci2, gcn1, gcn2, gcs1, gcs2, below_bl, below_int, below_non, below_str, below_tup, below_gd, belows, eqP_int, get_last, set_last, enumD, hW2, m1, hv1]
      have y2 : ex cfg.G (S n) (.asg (.nm 7) (.bin .mod (.bin .add (.bin .mul (.bin .mod (.bin .mul (.var 7) (.var 7)) (.con (.int 1000003))) (.bin .add (.var 3) (.con (.int 7)))) (.con (.int 4253))) (.con (.int 1000003)))) [some (.ref p), some (.int m), none, some (.int a), some (.ref q), some (.int w), some (.int w), some (.int v1)] (k ++ [.lst []]) = some (.nx [some (.ref p), some (.int m), none, some (.int a), some (.ref q), some (.int w), some (.int w), some (.int v2)] (k ++ [.lst []])) := by
        simp [Z.run, exs, ex.eq_1, ex.eq_2, ex.eq_3, ex.eq_4, ex.eq_5, ex.eq_6, ex.eq_7, ex.eq_8, ex.eq_9, ex.eq_10, ev.eq_1, ev.eq_2, ev.eq_3, ev.eq_4, ev.eq_5, ev.eq_6, ev.eq_7, ev.eq_8, ev.eq_9, ev.eq_10, ev.eq_11, ev.eq_12, ev.eq_13, ev.eq_14, ev.eq_15, ev.eq_16, ev.eq_17, ev.eq_18, ev.eq_19, ev.eq_22, ev.eq_23, evs, evT, evI, st, sts, prim1, prim2, primN, startD, truth_bl, truth_int, truth_non, ixD, seqOf, itSeq, tyD, newL, line, keyOf, kget, gOk, wipeD, allBls, allInts, atI, ixN, gc_pre, gc_same, gcb1, gcb2, gci1, gci2, gcn1, gcn2, gcs1, gcs2, below_bl, below_int, below_non, below_str, below_tup, below_gd, belows, eqP_int, get_last, set_last, enumD, m2, m3, hv2]
      have y3 : ex cfg.G (S n) (.asg (.nm 7) (.bin .mod (.bin .add (.bin .mul (.var 7) (.var 7)) (.bin .mul (.con (.int 5849)) (.bin .add (.var 3) (.con (.int 1))))) (.con (.int 1000003)))) [some (.ref p), some (.int m), none, some (.int a), some (.ref q), some (.int w), some (.int w), some (.int v2)] (k ++ [.lst []]) = some (.nx [some (.ref p), some (.int m), none, some (.int a), some (.ref q), some (.int w), some (.int w), some (.int v3)] (k ++ [.lst []])) := by
        simp [Z.run, exs, ex.eq_1, ex.eq_2, ex.eq_3, ex.eq_4, ex.eq_5, ex.eq_6, ex.eq_7, ex.eq_8, ex.eq_9, ex.eq_10, ev.eq_1, ev.eq_2, ev.eq_3, ev.eq_4, ev.eq_5, ev.eq_6, ev.eq_7, ev.eq_8, ev.eq_9, ev.eq_10, ev.eq_11, ev.eq_12, ev.eq_13, ev.eq_14, ev.eq_15, ev.eq_16, ev.eq_17, ev.eq_18, ev.eq_19, ev.eq_22, ev.eq_23, evs, evT, evI, st, sts, prim1, prim2, primN, startD, truth_bl, truth_int, truth_non, ixD, seqOf, itSeq, tyD, newL, line, keyOf, kget, gOk, wipeD, allBls, allInts, atI, ixN, gc_pre, gc_same, gcb1, gcb2, gci1, gci2, gcn1, gcn2, gcs1, gcs2, below_bl, below_int, below_non, below_str, below_tup, below_gd, belows, eqP_int, get_last, set_last, enumD, m4, m5, hv3]
      have y4 : ev cfg.G (S n) (.bin .mod (.app .toInt (.cons (.bin .fdiv (.var 7) (.con (.int 5))) .nil)) (.var 1)) [some (.ref p), some (.int m), none, some (.int a), some (.ref q), some (.int w), some (.int w), some (.int v3)] (k ++ [.lst []]) = some (.int ((v3.fdiv 5).fmod m), k ++ [.lst []]) := by
        simp [Z.run, exs, ex.eq_1, ex.eq_2, ex.eq_3, ex.eq_4, ex.eq_5, ex.eq_6, ex.eq_7, ex.eq_8, ex.eq_9, ex.eq_10, ev.eq_1, ev.eq_2, ev.eq_3, ev.eq_4, ev.eq_5, ev.eq_6, ev.eq_7, ev.eq_8, ev.eq_9, ev.eq_10, ev.eq_11, ev.eq_12, ev.eq_13, ev.eq_14, ev.eq_15, ev.eq_16, ev.eq_17, ev.eq_18, ev.eq_19, ev.eq_22, ev.eq_23, evs, evT, evI, st, sts, prim1, prim2, primN, startD, truth_bl, truth_int, truth_non, ixD, seqOf, itSeq, tyD, newL, line, keyOf, kget, gOk, wipeD, allBls, allInts, atI, ixN, gc_pre, gc_same, gcb1, gcb2, gci1, gci2, gcn1, gcn2, gcs1, gcs2, below_bl, below_int, below_non, below_str, below_tup, below_gd, belows, eqP_int, get_last, set_last, enumD, d5, m00]
      refine run_rt rfl (exs_nx (ex_ite x1 (by rfl)) (exs_nx x2 (exs_nx x3 (exs_nx x4 (exs_nx x5 (exs_nx (ex_ite x6 (by rfl)) (exs_nx y1 (exs_nx y2 (exs_nx y3 (exs_rt (ex_ret y4))))))))))) ?_
      rw [← hk]
      exact gc_pen (bel _ _) rfl
end K14
end

-- M26
section
set_option Elab.async false
set_option linter.all false
set_option maxRecDepth 100000
set_option maxHeartbeats 1000000
namespace K14
open PySem L2 Z
theorem fn27 (n vs h) : (S (n+1)).fn 27 vs h = Z.run cfg.G (S n) d27.fn vs h := rfl
theorem fn29 (n vs h) : (S (n+1)).fn 29 vs h = Z.run cfg.G (S n) d29.fn vs h := rfl
theorem t_pick (n p a : Nat) (c : Int) (xs : List D) (h : Hh) (P : Pen h p c) (e : h[a]? = some (.lst xs)) (hc : c < 1000000) (h0 : xs ≠ []) (h1 : xs.length < 1000000) (hb : ∀ x ∈ xs, below h.length x = true) :
    ∃ x o, x ∈ xs ∧ (S (n+2)).fn 29 [.ref p, .ref a] h = some (x, h.set p o) ∧ Pen (h.set p o) p (c+1) := by
  have hl : 0 < (xs.length : Int) := by
    have := List.length_pos_iff.mpr h0
    omega
  have ne : p ≠ a := fun q => by
    subst q
    obtain ⟨q, a', b, l, e1, _⟩ := P
    rw [e] at e1
    simp [penO] at e1
  obtain ⟨i, o, i0, i1, d1, P1⟩ := t_draw n p c xs.length h P hl (by omega) hc
  obtain ⟨x, hx, hm⟩ := atI_some (xs := xs) i0 i1
  refine ⟨x, o, hm, ?_, P1⟩
  have e1 : (h.set p o)[a]? = some (.lst xs) := by rw [List.getElem?_set_ne ne]; exact e
  have c1 : ev cfg.G (S (n+1)) (.app .len (.cons (.var 1) .nil)) [some (.ref p), some (.ref a)] h = some (.int xs.length, h) := ev_app1 (ev_var rfl) (by simp only [prim1, e])
  have v0 := ev_var (G := cfg.G) (cs := S (n+1)) (k := 0) (s := [some (.ref p), some (.ref a)]) (h := h) rfl
  have v1 := ev_var (G := cfg.G) (cs := S (n+1)) (k := 1) (s := [some (.ref p), some (.ref a)]) (h := h) rfl
  have c2 : ev cfg.G (S (n+1)) (.call 28 (.cons (.var 0) (.cons (.app .len (.cons (.var 1) .nil)) .nil))) [some (.ref p), some (.ref a)] h = some (.int i, h.set p o) := ev_callE (by simp only [evs, v0, c1]) d1
  rw [fn29]
  simp only [d29, DefT.fn, ir29]
  refine run_rt rfl (exs_rt (ex_ret (d := x) (ev_bin v1 c2 ?_))) (h' := h.set p o) ?_
  · simp only [prim2, ixD, e1, hx]
  · have bo : belowO h.length o = true := by
      obtain ⟨q, a', b, l, f1, f2, _⟩ := P1
      have hp : p < h.length := by
        obtain ⟨q, a', b, l, e1, _⟩ := P
        exact (List.getElem?_eq_some_iff.mp e1).1
      have hq : q < h.length := by
        have := (List.getElem?_eq_some_iff.mp f2).1
        simpa using this
      have : o = penO q a' b := by simpa [hp] using f1
      subst this
      simp [penO, penL, belowO, belows, below, hq]
    have := gc_pen (h := h) (t := []) (p := p) (v := x) bo (hb x hm)
    simpa using this
theorem t_pen (n : Nat) (ns : List Int) : ∃ h, (S (n+1)).fn 27 [.rl (zs ns)] [] = some (.ref 0, h) ∧ Pen h 0 0 ∧ h.length = 3 := by
  refine ⟨[penO 2 0 0, .lst (zs ns), .lst (zs (cutZ ns none (some 70)))], ?_, ⟨2, 0, 0, _, rfl, rfl, by decide, by decide, rfl⟩, rfl⟩
  rw [fn27]
  simp only [d27, DefT.fn, ir27]
  refine run_rt rfl (exs_rt (ex_ret (d := .ref 0) (h1 := [penO 2 0 0, .lst (zs ns), .lst (zs (cutZ ns none (some 70)))]) ?_)) ?_
  · rw [ev.eq_22]
    simp [Z.run, exs, ex.eq_1, ex.eq_2, ex.eq_3, ex.eq_4, ex.eq_5, ex.eq_6, ex.eq_7, ex.eq_8, ex.eq_9, ex.eq_10, ev.eq_1, ev.eq_2, ev.eq_3, ev.eq_4, ev.eq_5, ev.eq_6, ev.eq_7, ev.eq_8, ev.eq_9, ev.eq_10, ev.eq_11, ev.eq_12, ev.eq_13, ev.eq_14, ev.eq_15, ev.eq_16, ev.eq_17, ev.eq_18, ev.eq_19, ev.eq_22, ev.eq_23, evs, evT, evI, st, sts, prim1, prim2, primN, startD, truth_bl, truth_int, truth_non, ixD, seqOf, itSeq, tyD, newL, line, keyOf, kget, gOk, wipeD, allBls, allInts, atI, ixN, gc_pre, gc_same, gcb1, gcb2, gci1, gci2, gcn1, gcn2, gcs1, gcs2, below_bl, below_int, below_non, below_str, below_tup, below_gd, belows, eqP_int, get_last, set_last, enumD, slD, partOf, cut_zs]
    rfl
  · unfold gc
    simp [below, belowO, penO, penL, belows]
/-- how the store goes on: but for the pen, what stands stays -/
def Ev0 (h h' : Hh) : Prop := h.length ≤ h'.length ∧ ∀ i, i ≠ 0 → i < h.length → h'[i]? = h[i]?
theorem Ev0.refl {h : Hh} : Ev0 h h := ⟨Nat.le_refl _, fun _ _ _ => rfl⟩
theorem Ev0.trans {a b c : Hh} (x : Ev0 a b) (y : Ev0 b c) : Ev0 a c := ⟨Nat.le_trans x.1 y.1, fun i i0 il => (y.2 i i0 (Nat.lt_of_lt_of_le il x.1)).trans (x.2 i i0 il)⟩
theorem Ev0.set {h : Hh} {o : O} : Ev0 h (h.set 0 o) := ⟨by simp, fun i i0 _ => List.getElem?_set_ne (fun e => i0 e.symm)⟩
theorem Ev0.app {h t : Hh} : Ev0 h (h ++ t) := ⟨by simp, fun i _ il => List.getElem?_append_left il⟩
theorem Ev0.set_last {h h' : Hh} {o : O} {n : Nat} (e : Ev0 h h') (hn : h.length ≤ n) : Ev0 h (h'.set n o) := ⟨by simpa using e.1, fun i i0 il => by rw [List.getElem?_set_ne (by omega)]; exact e.2 i i0 il⟩
theorem Ev0.get {h h' : Hh} {i : Nat} {o : O} (e : Ev0 h h') (i0 : i ≠ 0) (g : h[i]? = some o) : h'[i]? = some o := by
  rw [e.2 i i0 (List.getElem?_eq_some_iff.mp g).1]
  exact g
theorem Pen.app {h t : Hh} {p : Nat} {c : Int} (P : Pen h p c) : Pen (h ++ t) p c := by
  obtain ⟨q, a, b, l, e1, e2, r⟩ := P
  exact ⟨q, a, b, l, app_at e1, app_at e2, r⟩
theorem Pen.le {h : Hh} {p : Nat} {c c' : Int} (P : Pen h p c) (hc : c ≤ c') : Pen h p c' := by
  obtain ⟨q, a, b, l, e1, e2, r1, r2, r3⟩ := P
  exact ⟨q, a, b, l, e1, e2, r1, Int.le_trans r2 hc, r3⟩
theorem Pen.set {h : Hh} {p n : Nat} {c : Int} {o : O} {xs : List D} (P : Pen h p c) (hn : h[n]? = some (.lst xs)) (hq : 2 ≠ n) : Pen (h.set n o) p c := by
  obtain ⟨q, a, b, l, e1, e2, r⟩ := P
  refine ⟨q, a, b, l, ?_, ?_, r⟩
  · rw [List.getElem?_set_ne]
    · exact e1
    · intro e
      subst e
      rw [e1] at hn
      simp [penO] at hn
  · have e := r.2.2
    subst e
    rw [List.getElem?_set_ne (fun e => hq e.symm)]
    exact e2
theorem lcGo_inv {body : D → Hh → Option (Option D × Hh)} {g : Gd} {dn N : Nat} (I : List D → Hh → Prop) (hN : N ≤ Z.line) (hg : ∀ acc h, I acc h → gOk g h = true) : ∀ (xs : List D) (acc : List D) (h : Hh),
    (∀ x ∈ xs, ∀ acc h, acc.length < N → I acc h → ∃ y h1, body x h = some (some y, h1) ∧ h1[dn]? = some (.lst acc) ∧ I (acc ++ [y]) (h1.set dn (.lst (acc ++ [y])))) → acc.length + xs.length ≤ N → I acc h → ∃ acc' h', lcGo body g dn xs h = some h' ∧ I acc' h' ∧ acc'.length = acc.length + xs.length
  | [], acc, h, hs, hl, i => ⟨acc, h, by simp [lcGo, hg acc h i], i, by simp⟩
  | x :: xs, acc, h, hs, hl, i => by
    simp only [List.length_cons] at hl
    obtain ⟨y, h1, b, e, i1⟩ := hs x List.mem_cons_self acc h (by omega) i
    obtain ⟨acc', h', r1, r2, r3⟩ := lcGo_inv I hN hg xs (acc ++ [y]) _ (fun z hz => hs z (List.mem_cons_of_mem _ hz)) (by simp only [List.length_append, List.length_cons, List.length_nil]; omega) i1
    refine ⟨acc', h', ?_, r2, by rw [r3]; simp only [List.length_append, List.length_cons, List.length_nil]; omega⟩
    simp only [lcGo, hg acc h i, if_true, b, e]
    rw [if_pos (by omega)]
    exact r1
end K14
end

-- M27
section
set_option Elab.async false
set_option linter.all false
set_option maxRecDepth 100000
set_option maxHeartbeats 1000000
namespace K14
open PySem L2 Z
theorem below_of_zs {n : Nat} {l : List Int} : ∀ x ∈ zs l, below n x = true := fun x hx => by
  obtain ⟨i, _, rfl⟩ := zs_mem hx
  rfl
theorem set_ne {s : Sl} {i j : Nat} {v w : Option D} (h : s[i]? = some w) (ne : j ≠ i) : (s.set j v)[i]? = some w := by
  rw [List.getElem?_set_ne ne]
  exact h
theorem rangeD_le {n : Int} {k : Nat} (h0 : 0 ≤ n) (h : n < k) : (rangeD 0 n.toNat).length < k := by
  rw [rangeD_len]
  omega
theorem ev_inner {n : Nat} {s : Sl} {h : Hh} {j r : Nat} {os : List Int} {c : Int} (s1 : s[1]? = some (some (.ref 0))) (s5 : s[5]? = some (some (.ref r))) (j1 : j ≠ 1) (j5 : j ≠ 5) (jl : j < s.length) (P : Pen h 0 c) (e : h[r]? = some (.lst (zs os))) (r0 : r ≠ 0) (h0 : os ≠ []) (h1 : os.length < 1000000) (c0 : 0 ≤ c) (hc : c < 100000) (hl : 2 < h.length) :
    ∃ l h', ev cfg.G (S (n+2)) (.lc (.rng1 (.call 28 (.cons (.var 1) (.cons (.con (.int 5)) .nil)))) (.nm j) .yes (.call 29 (.cons (.var 1) (.cons (.var 5) .nil))) [j]) s h = some (.ref h.length, h') ∧ h'[h.length]? = some (.lst (zs l)) ∧ (∀ i ∈ l, i ∈ os) ∧ l.length ≤ 4 ∧ Ev0 h h' ∧ Pen h' 0 (c+5) ∧ h'.length = h.length + 1 := by
  obtain ⟨i, o, i0, i1, d1, P1⟩ := t_draw (n+1) 0 c 5 h P (by decide) (by decide) (by omega)
  have hI : evI cfg.G (S (n+2)) (.rng1 (.call 28 (.cons (.var 1) (.cons (.con (.int 5)) .nil)))) s h = some (rangeD 0 i.toNat, [], h.set 0 o) := by
    have v1 := ev_var (G := cfg.G) (cs := S (n+2)) (k := 1) (s := s) (h := h) s1
    have e1 : ev cfg.G (S (n+2)) (.call 28 (.cons (.var 1) (.cons (.con (.int 5)) .nil))) s h = some (.int i, h.set 0 o) := ev_callE (by simp only [evs, v1, ev.eq_2]) d1
    have hs : small62 i = true := decide_eq_true (by omega)
    simp only [evI, e1, hs, if_true]
  have hlen : (h.set 0 o).length = h.length := by simp
  rw [ev.eq_20]
  simp only [hI, hlen]
  obtain ⟨acc', h', r1, ⟨l, rfl, q1, q2, q3, q4, q5⟩, r3⟩ := lcGo_inv (g := []) (dn := h.length) (N := 4) (body := fun x h => match st cfg.G (S (n+2)) (.nm j) x (wipeD s [j]) h with
        | some (s2, h2) => match evT cfg.G (S (n+2)) .yes s2 h2 with
          | some (true, h3) => match ev cfg.G (S (n+2)) (.call 29 (.cons (.var 1) (.cons (.var 5) .nil))) s2 h3 with
            | some (y, h4) => some (some y, h4)
            | none => none
          | some (false, h3) => some (none, h3)
          | none => none
        | none => none)
    (fun acc h' => ∃ l, acc = zs l ∧ (∀ i ∈ l, i ∈ os) ∧ h'[h.length]? = some (.lst acc) ∧ Ev0 h h' ∧ Pen h' 0 (c + 1 + acc.length) ∧ h'.length = h.length + 1) (by decide) (fun _ _ _ => rfl) (rangeD 0 i.toNat) [] (h.set 0 o ++ [.lst []]) (fun x hx acc k hN I => by
      obtain ⟨l, rfl, q1, q2, q3, q4, q5⟩ := I
      obtain ⟨x', o', m, d2, P2⟩ := t_pick n 0 r _ (zs os) k q4 (q3.get r0 e) (by omega) (by
        intro hz
        exact h0 (List.map_eq_nil_iff.mp hz)) (by rw [zs_len]; exact h1) below_of_zs
      obtain ⟨y, hy, rfl⟩ := zs_mem m
      refine ⟨.int y, k.set 0 o', ?_, ?_, ⟨l ++ [y], by simp [zs], ?_, ?_, ?_, ?_, ?_⟩⟩
      · have w1 := ev_var (G := cfg.G) (cs := S (n+2)) (k := 1) (s := s.set j (some x)) (h := k) (set_ne s1 j1)
        have w5 := ev_var (G := cfg.G) (cs := S (n+2)) (k := 5) (s := s.set j (some x)) (h := k) (set_ne s5 j5)
        have e2 : ev cfg.G (S (n+2)) (.call 29 (.cons (.var 1) (.cons (.var 5) .nil))) (s.set j (some x)) k = some (.int y, k.set 0 o') := ev_callE (by simp only [evs, w1, w5]) d2
        simp only [st, wipeD, List.set_set, evT, e2]
      · rw [List.getElem?_set_ne (by omega)]
        exact q2
      · intro i hi
        rcases List.mem_append.mp hi with hi | hi
        · exact q1 i hi
        · rw [List.mem_singleton.mp hi]
          exact hy
      · have : h.length < k.length := by omega
        simp [this]
      · exact (q3.trans Ev0.set).set_last (Nat.le_refl _)
      · have hd : (k.set 0 o')[h.length]? = some (.lst (zs l)) := by
          rw [List.getElem?_set_ne (by omega)]
          exact q2
        exact (P2.set hd (by omega)).le (by simp only [List.length_append, List.length_cons, List.length_nil]; omega)
      · simpa using q5) (by
      have := rangeD_le i0 (k := 5) i1
      rw [List.length_nil]
      omega) ⟨[], rfl, by simp, by rw [← hlen]; exact get_last, Ev0.set.trans Ev0.app, by simpa using P1.app, by simp⟩
  refine ⟨l, h', ?_, q2, q1, ?_, q3, q4.le ?_, q5⟩
  · exact congrArg (fun z => match z with
      | some h2 => some (D.ref h.length, h2)
      | none => none) r1
  · have := rangeD_le i0 (k := 5) i1
    rw [zs_len, List.length_nil] at r3
    omega
  · have := rangeD_le i0 (k := 5) i1
    rw [List.length_nil] at r3
    omega
end K14
end

-- M28
section
set_option Elab.async false
set_option linter.all false
set_option maxRecDepth 100000
set_option maxHeartbeats 1000000
namespace K14
open PySem L2 Z
/-- names of lists of whole numbers beyond a place -/
inductive LV (h : Hh) (lo : Nat) : List D → List (List Int) → Prop
  | nil : LV h lo [] []
  | cons {n : Nat} {l : List Int} {xs : List D} {ls : List (List Int)} : lo < n → h[n]? = some (.lst (zs l)) → LV h lo xs ls → LV h lo (.ref n :: xs) (l :: ls)
theorem LV.mono {h h' : Hh} {lo : Nat} (e : ∀ n o, lo < n → h[n]? = some o → h'[n]? = some o) {xs : List D} {ls : List (List Int)} (q : LV h lo xs ls) : LV h' lo xs ls := by
  induction q with
  | nil => exact .nil
  | cons a b _ ih => exact .cons a (e _ _ a b) ih
theorem LV.snoc {h : Hh} {lo n : Nat} {l : List Int} {xs : List D} {ls : List (List Int)} (q : LV h lo xs ls) (a : lo < n) (b : h[n]? = some (.lst (zs l))) : LV h lo (xs ++ [.ref n]) (ls ++ [l]) := by
  induction q with
  | nil => exact .cons a b .nil
  | cons c d _ ih => exact .cons c d ih
theorem LV.pwv {h : Hh} {lo : Nat} {xs : List D} {ls : List (List Int)} (q : LV h lo xs ls) : PWV h xs ls := by
  induction q with
  | nil => exact .nil
  | cons _ b _ ih => exact .cons (.inr ⟨_, rfl, b⟩) ih
theorem LV.len {h : Hh} {lo : Nat} {xs : List D} {ls : List (List Int)} (q : LV h lo xs ls) : xs.length = ls.length := q.pwv.len
theorem LV.app {h t : Hh} {lo : Nat} {xs : List D} {ls : List (List Int)} (q : LV h lo xs ls) : LV (h ++ t) lo xs ls := q.mono fun _ _ _ e => app_at e
theorem ev_lit {G : GEnv} {cs : CS} {es : Exs} {s : Sl} {h : Hh} {xs : List D} (e : evs G cs es s h = some (xs, h)) (hl : xs.length ≤ 1000) : ev G cs (.lst es) s h = some (.ref h.length, h ++ [.lst xs]) := by
  rw [ev.eq_5, e]
  simp only [newL]
  rw [if_pos (by unfold Z.line; omega)]
theorem ev_rings {n : Nat} {s : Sl} {h : Hh} {r : Nat} {os : List Int} {c : Int} (s1 : s[1]? = some (some (.ref 0))) (s5 : s[5]? = some (some (.ref r))) (jl : 11 < s.length) (P : Pen h 0 c) (e : h[r]? = some (.lst (zs os))) (r0 : r ≠ 0) (h0 : os ≠ []) (hos : os.length < 1000000) (c0 : 0 ≤ c) (hc : c < 90000) (hl : 2 < h.length) :
    ∃ xs rs h' dn, ev cfg.G (S (n+2)) (.lc (.rng1 (.call 29 (.cons (.var 1) (.cons (.lst (.cons (.con (.int 0)) (.cons (.con (.int 0)) (.cons (.con (.int 1)) (.cons (.con (.int 1)) (.cons (.con (.int 2)) (.cons (.con (.int 3)) .nil))))))) .nil)))) (.nm 9) .yes (.lc (.rng1 (.call 28 (.cons (.var 1) (.cons (.con (.int 5)) .nil)))) (.nm 11) .yes (.call 29 (.cons (.var 1) (.cons (.var 5) .nil))) [11]) [9]) s h = some (.ref dn, h') ∧ h.length ≤ dn ∧ h'[dn]? = some (.lst xs) ∧ LV h' dn xs rs ∧ (∀ r ∈ rs, (∀ i ∈ r, i ∈ os) ∧ r.length ≤ 4) ∧ rs.length ≤ 3 ∧ Ev0 h h' ∧ Pen h' 0 (c+20) := by
  have hE : evs cfg.G (S (n+2)) (.cons (.con (.int 0)) (.cons (.con (.int 0)) (.cons (.con (.int 1)) (.cons (.con (.int 1)) (.cons (.con (.int 2)) (.cons (.con (.int 3)) .nil)))))) s h = some (zs [0, 0, 1, 1, 2, 3], h) := by
    simp only [evs, ev.eq_2]
    rfl
  have hL := ev_lit hE (by decide)
  obtain ⟨x, o, m, d1, P1⟩ := t_pick n 0 h.length c (zs [0, 0, 1, 1, 2, 3]) (h ++ [.lst (zs [0, 0, 1, 1, 2, 3])]) P.app get_last (by omega) (by simp [zs]) (by decide) below_of_zs
  obtain ⟨i, hi, rfl⟩ := zs_mem m
  have i0 : 0 ≤ i ∧ i < 4 := by
    simp only [List.mem_cons, List.not_mem_nil, or_false] at hi
    omega
  generalize hk1 : (h ++ [O.lst (zs [0, 0, 1, 1, 2, 3])]).set 0 o = h1 at *
  have l1 : h1.length = h.length + 1 := by rw [← hk1]; simp
  have E1 : Ev0 h h1 := by
    rw [← hk1]
    exact Ev0.app.trans Ev0.set
  have hI : evI cfg.G (S (n+2)) (.rng1 (.call 29 (.cons (.var 1) (.cons (.lst (.cons (.con (.int 0)) (.cons (.con (.int 0)) (.cons (.con (.int 1)) (.cons (.con (.int 1)) (.cons (.con (.int 2)) (.cons (.con (.int 3)) .nil))))))) .nil)))) s h = some (rangeD 0 i.toNat, [], h1) := by
    have v1 := ev_var (G := cfg.G) (cs := S (n+2)) (k := 1) (s := s) (h := h) s1
    have e1 : ev cfg.G (S (n+2)) (.call 29 (.cons (.var 1) (.cons (.lst (.cons (.con (.int 0)) (.cons (.con (.int 0)) (.cons (.con (.int 1)) (.cons (.con (.int 1)) (.cons (.con (.int 2)) (.cons (.con (.int 3)) .nil))))))) .nil))) s h = some (.int i, h1) := ev_callE (by simp only [evs, v1, hL]) d1
    have hs : small62 i = true := decide_eq_true (by omega)
    simp only [evI, e1, hs, if_true]
  have rl := rangeD_le i0.1 (k := 4) i0.2
  rw [ev.eq_20]
  simp only [hI]
  generalize hbody : (fun x h => match st cfg.G (S (n+2)) (.nm 9) x (wipeD s [9]) h with
        | some (s2, h2) => match evT cfg.G (S (n+2)) .yes s2 h2 with
          | some (true, h3) => match ev cfg.G (S (n+2)) (.lc (.rng1 (.call 28 (.cons (.var 1) (.cons (.con (.int 5)) .nil)))) (.nm 11) .yes (.call 29 (.cons (.var 1) (.cons (.var 5) .nil))) [11]) s2 h3 with
            | some (y, h4) => some (some y, h4)
            | none => none
          | some (false, h3) => some (none, h3)
          | none => none
        | none => none : D → Hh → Option (Option D × Hh)) = body
  obtain ⟨acc', h', r1, ⟨rs, q1, q2, q3, q4, q5, q6⟩, r3⟩ := lcGo_inv (g := []) (dn := h1.length) (N := 3) (body := body)
    (fun acc k => ∃ rs, LV k h1.length acc rs ∧ (∀ r ∈ rs, (∀ i ∈ r, i ∈ os) ∧ r.length ≤ 4) ∧ k[h1.length]? = some (.lst acc) ∧ Ev0 h k ∧ Pen k 0 (c + 1 + 5 * acc.length) ∧ h1.length < k.length) (by decide) (fun _ _ _ => rfl) (rangeD 0 i.toNat) [] (h1 ++ [.lst []]) (fun x hx acc k hN I => by
      obtain ⟨rs, q1, q2, q3, q4, q5, q6⟩ := I
      obtain ⟨l, k', a1, a2, a3, a4, a5, a6, a7⟩ := ev_inner (n := n) (s := s.set 9 (some x)) (h := k) (j := 11) (r := r) (os := os) (c := c + 1 + 5 * acc.length) (set_ne s1 (by decide)) (set_ne s5 (by decide)) (by decide) (by decide) (by simpa using jl) q5 (q4.get r0 e) r0 h0 hos (by omega) (by omega) (by omega)
      have b1 : k'[h1.length]? = some (.lst acc) := a5.get (by omega) q3
      refine ⟨.ref k.length, k', ?_, b1, rs ++ [l], ?_, ?_, ?_, ?_, ?_, ?_⟩
      · rw [← hbody]
        simp only [st, wipeD, List.set_set, evT, a1]
      · refine LV.snoc (q1.mono fun m o hm g => ?_) q6 ?_
        · rw [List.getElem?_set_ne (by omega)]
          exact a5.get (by omega) g
        · rw [List.getElem?_set_ne (by omega)]
          exact a2
      · intro r hr
        rcases List.mem_append.mp hr with hr | hr
        · exact q2 r hr
        · rw [List.mem_singleton.mp hr]
          exact ⟨a3, a4⟩
      · have : h1.length < k'.length := by omega
        simp [this]
      · exact (q4.trans a5).set_last (by omega)
      · refine (a6.set b1 (by omega)).le ?_
        simp only [List.length_append, List.length_cons, List.length_nil]
        omega
      · have : h1.length < k'.length := by omega
        simpa using this) (by
      rw [List.length_nil]
      omega) ⟨[], .nil, by simp, get_last, E1.trans Ev0.app, by simpa using P1.app, by simp⟩
  rw [List.length_nil] at r3
  refine ⟨acc', rs, h', h1.length, ?_, by omega, q3, q1, q2, by rw [← q1.len]; omega, q4, q5.le (by omega)⟩
  subst hbody
  exact congrArg (fun z => match z with
      | some h2 => some (D.ref h1.length, h2)
      | none => none) r1
end K14
end

-- M29
section
set_option Elab.async false
set_option linter.all false
set_option maxRecDepth 100000
set_option maxHeartbeats 1000000
namespace K14
open PySem L2 Z
def srt (l : List Int) : List Int := l.mergeSort fun a b => decide (a ≤ b)
theorem srt_perm (l : List Int) : (srt l).Perm l := List.mergeSort_perm _ _
theorem srt_sorted (l : List Int) : (srt l).Pairwise (· ≤ ·) := by
  have := List.pairwise_mergeSort (le := fun a b : Int => decide (a ≤ b)) (fun a b c h1 h2 => by simp only [decide_eq_true_eq] at *; omega) (fun a b => by
    simp only [Bool.or_eq_true, decide_eq_true_eq]; omega) l
  exact this.imp fun h => of_decide_eq_true h
theorem dle_int {h : Hh} {a b : Int} : PySem.W.dataLe false (encD h) (.int a) (.int b) = decide (a ≤ b) := by
  have e : PySem.W.dataLe false (encD h) (.int a) (.int b) = !PySem.W.dataLt (encD h (.int b)) (encD h (.int a)) := rfl
  rw [e, enc_int, enc_int, PySem.W.dataLt_int]
  rw [Bool.eq_iff_iff]
  simp
theorem sortD_zs {h : Hh} (l : List Int) : sortD h (zs l) = zs (srt l) := by
  unfold sortD zs srt
  exact (List.map_mergeSort (r := fun a b : Int => decide (a ≤ b)) (s := PySem.W.dataLe false (encD h)) (f := D.int) (l := l) (fun a _ b _ => (dle_int (h := h) (a := a) (b := b)).symm)).symm
theorem sorted_zs' {h : Hh} {v : D} {l : List Int} (q : SeqV h v (zs l)) (hl : l.length ≤ 1000) : prim1 .sorted v h = some (.ref h.length, h ++ [.lst (zs (srt l))]) := by
  have hl2 : (zs l).length ≤ Z.line := by
    rw [zs_len]
    unfold Z.line
    omega
  simp [prim1, q.seq, data_zs, sortB_zs, hl2, sortD_zs, newL]
theorem fn30 (n vs h) : (S (n+1)).fn 30 vs h = Z.run cfg.G (S n) d30.fn vs h := rfl
theorem fn31 (n vs h) : (S (n+1)).fn 31 vs h = Z.run cfg.G (S n) d31.fn vs h := rfl
def rb : List Int → Bool
  | [] => true
  | [_] => true
  | [_, _] => true
  | [a, b, c] => decide ([a, b] = [2, 2]) || (decide ([a, b] = [2, 3]) && decide (c ≤ 5))
  | _ => false
def fb (T : List Int) : Bool := decide (T = [2, 2, 2, 2]) || (decide (T = [3, 3, 3]) || (decide (T = [2, 4, 4]) || decide (T = [2, 3, 6])))
theorem gc_bl' {h t : Hh} {b : Bool} : gc h (.bl b, h ++ t) = (.bl b, h) := gcb2
theorem cut2 {T : List Int} : cutD (zs T) none (some 2) = zs (T.take 2) := by
  have e : HT.sIx (zs T).length 0 none = 0 := rfl
  have e2 : HT.sIx (zs T).length (zs T).length (some 2) = min 2 (zs T).length := by
    have := @HT.sIx_nat
    rw [show (some (2 : Int)) = some ((2 : Nat) : Int) from rfl, HT.sIx_nat]
  simp only [cutD, e, e2, List.drop_zero, Nat.sub_zero]
  rw [show zs (T.take 2) = (zs T).take 2 by simp [zs, List.map_take]]
  rw [List.take_eq_take_iff]
  omega
theorem ev_or {G : GEnv} {cs : CS} {a b : Ex} {s : Sl} {h h1 : Hh} {x : Bool} {r : Option (D × Hh)} (e : ev G cs a s h = some (.bl x, h1)) (k : (if x = true then some (.bl true, h1) else ev G cs b s h1) = r) : ev G cs (.or a b) s h = r := by
  rw [← k]
  cases x
  · simp only [ev, e]
    rfl
  · simp only [ev, e]
    rfl
theorem ev_and {G : GEnv} {cs : CS} {a b : Ex} {s : Sl} {h h1 : Hh} {x : Bool} {r : Option (D × Hh)} (e : ev G cs a s h = some (.bl x, h1)) (k : (if x = true then ev G cs b s h1 else some (.bl false, h1)) = r) : ev G cs (.and a b) s h = r := by
  rw [← k]
  cases x
  · simp only [ev, e]
    rfl
  · simp only [ev, e]
    rfl
theorem ev_sl2 {cs : CS} {s : Sl} {h : Hh} {a : Nat} {T : List Int} (s0 : s[0]? = some (some (.ref a))) (e : h[a]? = some (.lst (zs T))) : ev cfg.G cs (.sl (.var 0) (.con .non) (.con (.int 2))) s h = some (.ref h.length, h ++ [.lst (zs (T.take 2))]) := by
  rw [ev.eq_8, ev_var s0]
  simp only [ev.eq_2, slD, partOf, e, cut2, newL]
theorem ev_l2 {cs : CS} {s : Sl} {h : Hh} {x y : Int} : ev cfg.G cs (.lst (.cons (.con (.int x)) (.cons (.con (.int y)) .nil))) s h = some (.ref h.length, h ++ [.lst (zs [x, y])]) := ev_lit (xs := zs [x, y]) (by simp only [evs, ev.eq_2]; rfl) (by simp [zs])
theorem ev_eqsl {cs : CS} {s : Sl} {h : Hh} {a : Nat} {T : List Int} {x y : Int} (s0 : s[0]? = some (some (.ref a))) (e : h[a]? = some (.lst (zs T))) : ∃ t, ev cfg.G cs (.bin .eq (.sl (.var 0) (.con .non) (.con (.int 2))) (.lst (.cons (.con (.int x)) (.cons (.con (.int y)) .nil)))) s h = some (.bl (decide (T.take 2 = [x, y])), h ++ t) := by
  refine ⟨[.lst (zs (T.take 2)), .lst (zs [x, y])], ev_bin (ev_sl2 s0 e) ev_l2 ?_⟩
  have e1 : (h ++ [O.lst (zs (T.take 2))] ++ [.lst (zs [x, y])])[h.length]? = some (.lst (zs (T.take 2))) := app_at get_last
  have e2 := eqP_lst e1 (get_last (h := h ++ [O.lst (zs (T.take 2))]) (o := .lst (zs [x, y])))
  simp only [prim2, e2]
  simp
theorem t_rb (n a : Nat) (T : List Int) (h : Hh) (e : h[a]? = some (.lst (zs T))) : (S (n+1)).fn 30 [.ref a] h = some (.bl (rb T), h) := by
  rw [fn30]
  have c0 : ev cfg.G (S n) (.app .len (.cons (.var 0) .nil)) [some (.ref a)] h = some (.int T.length, h) := ev_app1 (ev_var rfl) (by simp only [prim1, e, zs_len])
  have c1 : evT cfg.G (S n) (.val (.bin .lt (.app .len (.cons (.var 0) .nil)) (.con (.int 3)))) [some (.ref a)] h = some (decide ((T.length : Int) < 3), h) := evT_val (ev_bin c0 (by rw [ev.eq_2]) rfl)
  have c2 : ev cfg.G (S n) (.bin .eq (.app .len (.cons (.var 0) .nil)) (.con (.int 3))) [some (.ref a)] h = some (.bl ((T.length : Int) == 3), h) := ev_bin c0 (by rw [ev.eq_2]) (by simp only [prim2, eqP_int])
  simp only [d30, DefT.fn, ir30]
  have sh : (T.length : Int) < 3 → Z.run cfg.G (S n) { np := 1, nn := 1, body := ir30 } [.ref a] h = some (.bl true, h) := fun hl => by
    rw [decide_eq_true hl] at c1
    exact run_rt rfl (exs_rt (ex_ite c1 (exs_rt (v := .bl true) (h2 := h) (ex_ret (by rw [ev.eq_2]))))) gcb1
  match T, e with
  | [], _ => exact sh (by simp)
  | [x], _ => exact sh (by simp)
  | [x, y], _ => exact sh (by simp)
  | [x, y, z], e =>
    obtain ⟨t1, q1⟩ := ev_eqsl (cs := S n) (s := [some (.ref a)]) (x := 2) (y := 2) rfl e
    obtain ⟨t2, q2⟩ := ev_eqsl (cs := S n) (s := [some (.ref a)]) (h := h ++ t1) (x := 2) (y := 3) rfl (app_at e)
    change _ = some (D.bl (decide ([x, y] = [2, 2])), h ++ t1) at q1
    change _ = some (D.bl (decide ([x, y] = [2, 3])), h ++ t1 ++ t2) at q2
    have q3 : ∃ t, ev cfg.G (S n) (.and (.bin .eq (.sl (.var 0) (.con .non) (.con (.int 2))) (.lst (.cons (.con (.int 2)) (.cons (.con (.int 3)) .nil)))) (.bin .le (.bin .ix (.var 0) (.con (.int 2))) (.con (.int 5)))) [some (.ref a)] (h ++ t1) = some (.bl (decide ([x, y] = [2, 3]) && decide (z ≤ 5)), h ++ t) := by
      refine ⟨t1 ++ t2, ev_and q2 ?_⟩
      have ix : ev cfg.G (S n) (.bin .le (.bin .ix (.var 0) (.con (.int 2))) (.con (.int 5))) [some (.ref a)] (h ++ t1 ++ t2) = some (.bl (decide (z ≤ 5)), h ++ t1 ++ t2) := by
        have g : (h ++ t1 ++ t2)[a]? = some (.lst (zs [x, y, z])) := app_at (app_at e)
        refine ev_bin (ev_bin (r := some (.int z, h ++ t1 ++ t2)) (ev_var rfl) (by rw [ev.eq_2]) ?_) (by rw [ev.eq_2]) rfl
        simp only [prim2, ixD, g]
        rfl
      rw [← List.append_assoc]
      cases decide ([x, y] = [2, 3]) with
      | true =>
        simp only [if_true, Bool.true_and]
        exact ix
      | false => simp only [Bool.false_eq_true, if_false, Bool.false_and]
    obtain ⟨t3, q3⟩ := q3
    have q4 : ∃ t, ev cfg.G (S n) (.or (.bin .eq (.sl (.var 0) (.con .non) (.con (.int 2))) (.lst (.cons (.con (.int 2)) (.cons (.con (.int 2)) .nil)))) (.and (.bin .eq (.sl (.var 0) (.con .non) (.con (.int 2))) (.lst (.cons (.con (.int 2)) (.cons (.con (.int 3)) .nil)))) (.bin .le (.bin .ix (.var 0) (.con (.int 2))) (.con (.int 5))))) [some (.ref a)] h = some (.bl (rb [x, y, z]), h ++ t) := by
      cases hx : decide ([x, y] = [2, 2]) with
      | true =>
        rw [hx] at q1
        refine ⟨t1, ev_or q1 ?_⟩
        simp only [if_true, rb, hx, Bool.true_or]
      | false =>
        rw [hx] at q1
        refine ⟨t3, ev_or q1 ?_⟩
        simp only [Bool.false_eq_true, if_false, rb, hx, Bool.false_or]
        exact q3
    obtain ⟨t4, q4⟩ := q4
    have c1' : evT cfg.G (S n) (.val (.bin .lt (.app .len (.cons (.var 0) .nil)) (.con (.int 3)))) [some (.ref a)] h = some (false, h) := c1
    exact run_rt rfl (exs_nx (ex_ite c1' (by rfl)) (exs_rt (ex_ret (ev_and c2 q4)))) gcb2
  | x :: y :: z :: w :: T, e =>
    have hl : decide (((x :: y :: z :: w :: T).length : Int) < 3) = false := by simp; omega
    have h3 : (((x :: y :: z :: w :: T).length : Int) == 3) = false := by simp; omega
    rw [hl] at c1
    rw [h3] at c2
    exact run_rt rfl (exs_nx (ex_ite c1 (by rfl)) (exs_rt (ex_ret (ev_and (r := some (.bl false, h)) c2 (by simp))))) gcb1
end K14
end

-- M30
section
set_option Elab.async false
set_option linter.all false
set_option maxRecDepth 100000
set_option maxHeartbeats 1000000
namespace K14
open PySem L2 Z
theorem refP_lst {h : Hh} {n j : Nat} {l : List Int} (e : h[n]? = some (.lst (zs l))) : refP h (j+1) n = some (lI l) := by
  simp [refP, e, toPWs_zs, lI]
inductive LsAt (h : Hh) : List Nat → List (List Int) → Prop
  | nil : LsAt h [] []
  | cons {n : Nat} {l : List Int} {xs : List Nat} {ls : List (List Int)} : h[n]? = some (.lst (zs l)) → LsAt h xs ls → LsAt h (n :: xs) (l :: ls)
theorem toPWs_refs {h : Hh} {j : Nat} : ∀ {xs : List Nat} {ls : List (List Int)}, LsAt h xs ls → toPWs (refP h (j+1)) (xs.map D.ref) = some (ls.map lI)
  | [], [], _ => rfl
  | x :: xs, l :: ls, .cons a b => by
    simp only [List.map_cons, toPWs, toPW, refP_lst a, toPWs_refs b]
theorem inD_ll {h : Hh} {a n : Nat} {T : List Int} {xs : List Nat} {ls : List (List Int)} (e : h[a]? = some (.lst (zs T))) (g : h[n]? = some (.lst (xs.map D.ref))) (f : LsAt h xs ls) : inD h (.ref a) (.ref n) = some (ls.any fun l => decide (l = T)) := by
  have h1 := dep_lI T
  have h2 := all_depth dep_lI ls
  have h3 : (PyData.list (ls.map lI)).canLay0 = true := by simp only [PyData.canLay0]; exact all_can can_lI ls
  have h4 : (PyData.list (ls.map lI)).depth ≤ 64 := by simp only [PyData.depth]; omega
  have h5 : (lI T).depth ≤ 64 := by omega
  simp only [inD, g, toP_lst e, toPWs_refs f, inP, SeqAt.shaped, can_lI, h3, h4, h5, decide_true, Bool.and_self, and_self, if_true, List.any_map, Function.comp_def, eqv_lI]
theorem t_fb (n a : Nat) (T : List Int) (h : Hh) (e : h[a]? = some (.lst (zs T))) : (S (n+1)).fn 31 [.ref a] h = some (.bl (fb T), h) := by
  rw [fn31]
  simp only [d31, DefT.fn, ir31]
  have lit : ∀ (k : Hh) (es : Exs) (l : List Int), evs cfg.G (S n) es [some (.ref a)] k = some (zs l, k) → l.length ≤ 1000 → ev cfg.G (S n) (.lst es) [some (.ref a)] k = some (.ref k.length, k ++ [.lst (zs l)]) := fun k es l he hl => ev_lit he (by rw [zs_len]; exact hl)
  have c1 := lit h (.cons (.con (.int 2)) (.cons (.con (.int 2)) (.cons (.con (.int 2)) (.cons (.con (.int 2)) .nil)))) [2, 2, 2, 2] (by simp only [evs, ev.eq_2]; rfl) (by decide)
  generalize hk1 : h ++ [O.lst (zs [2, 2, 2, 2])] = k1 at *
  have c2 := lit k1 (.cons (.con (.int 3)) (.cons (.con (.int 3)) (.cons (.con (.int 3)) .nil))) [3, 3, 3] (by simp only [evs, ev.eq_2]; rfl) (by decide)
  generalize hk2 : k1 ++ [O.lst (zs [3, 3, 3])] = k2 at *
  have c3 := lit k2 (.cons (.con (.int 2)) (.cons (.con (.int 4)) (.cons (.con (.int 4)) .nil))) [2, 4, 4] (by simp only [evs, ev.eq_2]; rfl) (by decide)
  generalize hk3 : k2 ++ [O.lst (zs [2, 4, 4])] = k3 at *
  have c4 := lit k3 (.cons (.con (.int 2)) (.cons (.con (.int 3)) (.cons (.con (.int 6)) .nil))) [2, 3, 6] (by simp only [evs, ev.eq_2]; rfl) (by decide)
  generalize hk4 : k3 ++ [O.lst (zs [2, 3, 6])] = k4 at *
  have c5 : ev cfg.G (S n) (.lst (.cons (.lst (.cons (.con (.int 2)) (.cons (.con (.int 2)) (.cons (.con (.int 2)) (.cons (.con (.int 2)) .nil))))) (.cons (.lst (.cons (.con (.int 3)) (.cons (.con (.int 3)) (.cons (.con (.int 3)) .nil)))) (.cons (.lst (.cons (.con (.int 2)) (.cons (.con (.int 4)) (.cons (.con (.int 4)) .nil)))) (.cons (.lst (.cons (.con (.int 2)) (.cons (.con (.int 3)) (.cons (.con (.int 6)) .nil)))) .nil))))) [some (.ref a)] h = some (.ref k4.length, k4 ++ [.lst ([h.length, k1.length, k2.length, k3.length].map D.ref)]) := by
    rw [ev.eq_5]
    have z : evs cfg.G (S n) (.cons (.lst (.cons (.con (.int 2)) (.cons (.con (.int 2)) (.cons (.con (.int 2)) (.cons (.con (.int 2)) .nil))))) (.cons (.lst (.cons (.con (.int 3)) (.cons (.con (.int 3)) (.cons (.con (.int 3)) .nil)))) (.cons (.lst (.cons (.con (.int 2)) (.cons (.con (.int 4)) (.cons (.con (.int 4)) .nil)))) (.cons (.lst (.cons (.con (.int 2)) (.cons (.con (.int 3)) (.cons (.con (.int 6)) .nil)))) .nil)))) [some (.ref a)] h = some ([h.length, k1.length, k2.length, k3.length].map D.ref, k4) := by
      rw [evs.eq_2, c1]
      simp only []
      rw [evs.eq_2, c2]
      simp only []
      rw [evs.eq_2, c3]
      simp only []
      rw [evs.eq_2, c4]
      simp only [evs, List.map]
    rw [z]
    rfl
  have g1 : k1[h.length]? = some (.lst (zs [2, 2, 2, 2])) := by rw [← hk1]; exact get_last
  have g2 : k2[k1.length]? = some (.lst (zs [3, 3, 3])) := by rw [← hk2]; exact get_last
  have g3 : k3[k2.length]? = some (.lst (zs [2, 4, 4])) := by rw [← hk3]; exact get_last
  have g4 : k4[k3.length]? = some (.lst (zs [2, 3, 6])) := by rw [← hk4]; exact get_last
  have a4 : ∀ {i o}, k3[i]? = some o → k4[i]? = some o := fun q => by rw [← hk4]; exact app_at q
  have a3 : ∀ {i o}, k2[i]? = some o → k3[i]? = some o := fun q => by rw [← hk3]; exact app_at q
  have a2 : ∀ {i o}, k1[i]? = some o → k2[i]? = some o := fun q => by rw [← hk2]; exact app_at q
  have a1 : ∀ {i o}, h[i]? = some o → k1[i]? = some o := fun q => by rw [← hk1]; exact app_at q
  have pre : ∃ t, k4 = h ++ t := ⟨[.lst (zs [2, 2, 2, 2]), .lst (zs [3, 3, 3]), .lst (zs [2, 4, 4]), .lst (zs [2, 3, 6])], by rw [← hk4, ← hk3, ← hk2, ← hk1]; simp⟩
  obtain ⟨t, pre⟩ := pre
  have i1 := inD_ll (h := k4 ++ [.lst ([h.length, k1.length, k2.length, k3.length].map D.ref)]) (a := a) (T := T) (ls := [[2, 2, 2, 2], [3, 3, 3], [2, 4, 4], [2, 3, 6]]) (app_at (a4 (a3 (a2 (a1 e))))) get_last (.cons (app_at (a4 (a3 (a2 g1)))) (.cons (app_at (a4 (a3 g2))) (.cons (app_at (a4 g3)) (.cons (app_at g4) .nil))))
  have hv : ([[2, 2, 2, 2], [3, 3, 3], [2, 4, 4], [2, 3, 6]].any fun l => decide (l = T)) = fb T := by
    have sy : ∀ l : List Int, decide (l = T) = decide (T = l) := fun l => by
      rw [Bool.eq_iff_iff]
      simp [eq_comm]
    simp only [List.any_cons, List.any_nil, Bool.or_false, fb, sy]
  rw [hv] at i1
  refine run_rt rfl (exs_rt (ex_ret (ev_bin (r := some (.bl (fb T), k4 ++ [.lst ([h.length, k1.length, k2.length, k3.length].map D.ref)])) (ev_var rfl) c5 ?_))) ?_
  · simp only [prim2, i1]
  · rw [pre, List.append_assoc]
    exact gcb2
end K14
end

-- M31
section
set_option Elab.async false
set_option linter.all false
set_option maxRecDepth 100000
set_option maxHeartbeats 1000000
namespace K14
open PySem L2 Z
def nums (a : Nat) : Nat → List Nat
  | 0 => []
  | n + 1 => a :: nums (a + 1) n
theorem refs_nums : ∀ (n a : Nat), refs a n = (nums a n).map D.ref
  | 0, a => rfl
  | n + 1, a => by simp only [refs, nums, List.map_cons, refs_nums n (a + 1)]
theorem lsat_nums {h : Hh} : ∀ (rs : List (List Int)) (a : Nat) (t : Hh), h.length = a → LsAt (h ++ rs.map (fun r => O.lst (zs r)) ++ t) (nums a rs.length) rs
  | [], a, t, e => .nil
  | r :: rs, a, t, e => by
    refine .cons ?_ ?_
    · subst e
      simp
    · have := lsat_nums (h := h ++ [.lst (zs r)]) rs (a + 1) t (by simp [e])
      simpa using this
theorem LsAt.app {h t : Hh} {xs : List Nat} {ls : List (List Int)} (q : LsAt h xs ls) : LsAt (h ++ t) xs ls := by
  induction q with
  | nil => exact .nil
  | cons a _ ih => exact .cons (app_at a) ih
theorem LsAt.len {h : Hh} {xs : List Nat} {ls : List (List Int)} (q : LsAt h xs ls) : xs.length = ls.length := by
  induction q with
  | nil => rfl
  | cons a _ ih => simp [ih]
/-- a list of lists lies there -/
def LL (h : Hh) (n : Nat) (ls : List (List Int)) : Prop := ∃ xs, h[n]? = some (.lst (xs.map D.ref)) ∧ LsAt h xs ls
theorem LL.app {h t : Hh} {n : Nat} {ls : List (List Int)} (q : LL h n ls) : LL (h ++ t) n ls := by
  obtain ⟨xs, a, b⟩ := q
  exact ⟨xs, app_at a, b.app⟩
def llI (ls : List (List Int)) : PyData := .list (ls.map lI)
theorem can_ll (ls : List (List Int)) : (llI ls).canLay0 = true := by simp only [llI, PyData.canLay0]; exact all_can can_lI ls
theorem dep_ll (ls : List (List Int)) : (llI ls).depth ≤ 2 := by
  have := all_depth dep_lI ls
  simp only [llI, PyData.depth]
  omega
theorem eqv_ll (a b : List (List Int)) : PyData.eqv (llI a) (llI b) = decide (a = b) := by
  simp only [llI, PyData.eqv]
  exact all_eqv eqv_lI a b
theorem LL.refP {h : Hh} {n : Nat} {ls : List (List Int)} (q : LL h n ls) : Z.refP h 8 n = some (llI ls) := by
  obtain ⟨xs, a, b⟩ := q
  have e := toPWs_refs (j := 6) b
  rw [Z.refP.eq_2, a]
  simp only [e, Option.map_some, llI]
theorem LL.toP {h : Hh} {n : Nat} {ls : List (List Int)} (q : LL h n ls) : Z.toP h (.ref n) = some (llI ls) := q.refP
theorem ll_nil {h : Hh} {n : Nat} (e : h[n]? = some (.lst [])) : LL h n [] := ⟨[], e, .nil⟩
theorem eqP_ll {h : Hh} {n m : Nat} {a b : List (List Int)} (p : LL h n a) (q : LL h m b) : eqP h (.ref n) (.ref m) = some (decide (a = b)) := by
  have h1 := dep_ll a
  have h2 := dep_ll b
  rw [eqP_of p.toP q.toP (can_ll a) (can_ll b) (by omega) (by omega), eqv_ll]
theorem LL.lists {h : Hh} {xs : List Nat} {ls : List (List Int)} (q : LsAt h xs ls) : listsOf h (xs.map D.ref) = some (ls.map zs) := by
  induction q with
  | nil => rfl
  | cons a _ ih => simp only [List.map_cons, listsOf, a, ih]
theorem flat_zs : ∀ ls : List (List Int), (ls.map zs).flatten = zs ls.flatten
  | [] => rfl
  | l :: ls => by rw [List.map_cons, List.flatten_cons, List.flatten_cons, zs_app, flat_zs ls]
/-- the sum of a list of lists, from an empty one -/
theorem sumL_ll {h : Hh} {n m : Nat} {ls : List (List Int)} (q : LL h n ls) (e : h[m]? = some (.lst [])) (hl : ls.flatten.length ≤ 1000) : ∃ r t, prim2 cfg.G .sumL (.ref n) (.ref m) h = some (.ref r, h ++ t) ∧ (h ++ t)[r]? = some (.lst (zs ls.flatten)) := by
  obtain ⟨xs, a, b⟩ := q
  have e2 := LL.lists b
  have hl2 : (zs ls.flatten).length ≤ Z.line := by
    rw [zs_len]
    unfold Z.line
    omega
  cases ls with
  | nil =>
    refine ⟨m, [], ?_, ?_⟩
    · simp only [prim2, a, e, e2, List.map_nil, List.flatten_nil, List.length_nil]
      simp
    · simpa [zs] using e
  | cons l ls =>
    refine ⟨h.length, [.lst (zs (l :: ls).flatten)], ?_, get_last⟩
    have e3 : (zs l :: ls.map zs).flatten = zs (l :: ls).flatten := flat_zs (l :: ls)
    simp only [prim2, a, e, e2, List.map_cons, newL, e3]
    rw [if_pos hl2]
theorem eqP_three {h : Hh} {hd : Int} {a b x y : Nat} {K : List Int} {ls : List (List Int)} (e1 : h[a]? = some (.lst (zs K))) (e2 : LL h b ls) (e3 : h[x]? = some (.lst [])) (e4 : h[y]? = some (.lst [])) : eqP h (.tup [.int hd, .ref a, .ref b]) (.tup [.int 1, .ref x, .ref y]) = some (decide (hd = 1 ∧ K = [] ∧ ls = [])) := by
  have r1 : refP h 8 a = some (lI K) := refP_lst e1
  have r2 := e2.refP
  have r3 : refP h 8 x = some (lI []) := refP_lst (l := []) e3
  have r4 : refP h 8 y = some (llI []) := (ll_nil e4).refP
  have p1 : toP h (.tup [.int hd, .ref a, .ref b]) = some (.tuple [.int hd, lI K, llI ls]) := by
    simp only [toP, toPW, toPWs, r1, r2, Option.map_some]
  have p2 : toP h (.tup [.int 1, .ref x, .ref y]) = some (.tuple [.int 1, lI [], llI []]) := by
    simp only [toP, toPW, toPWs, r3, r4, Option.map_some]
  have can : ∀ i K ls, (PyData.tuple [.int i, lI K, llI ls]).canLay0 = true := fun i K ls => by
    simp only [PyData.canLay0, PyData.canLayAll0, can_i, can_lI, can_ll, Bool.and_self]
  have dep : ∀ i K ls, (PyData.tuple [.int i, lI K, llI ls]).depth ≤ 64 := fun i K ls => by
    have h1 := dep_i i
    have h2 := dep_lI K
    have h3 := dep_ll ls
    simp only [PyData.depth, PyData.depthAll] at *
    omega
  rw [eqP_of p1 p2 (can _ _ _) (can _ _ _) (dep _ _ _) (dep _ _ _)]
  have e : PyData.eqvAll [.int hd, lI K, llI ls] [.int 1, lI [], llI []] = decide (hd = 1 ∧ K = [] ∧ ls = []) := by
    simp only [PyData.eqvAll, eqv_i, eqv_lI, eqv_ll, Bool.and_true]
    rw [Bool.eq_iff_iff]
    simp
  simp only [PyData.eqv, e]
theorem inD_pair {h : Hh} {a b : Int} : inD h (.tup [.int a, .int b]) (.tup [.tup [.int 0, .int 2], .tup [.int 1, .int 1]]) = some (decide ((a = 0 ∧ b = 2) ∨ (a = 1 ∧ b = 1))) := by
  have p1 : ∀ i j : Int, toPW (refP h 8) (.tup [.int i, .int j]) = some (tI [i, j]) := fun i j => by
    simp only [toPW, toPWs, Option.map_some, K14.tupP, List.map]
  have p2 : toP h (.tup [.int a, .int b]) = some (tI [a, b]) := p1 a b
  have can : (PyData.list [tI [0, 2], tI [1, 1]]).canLay0 = true := by simp only [PyData.canLay0, PyData.canLayAll0, can_tI, Bool.and_self]
  have dep : (PyData.list [tI [0, 2], tI [1, 1]]).depth ≤ 64 := by
    have h2 := dep_tI [0, 2]
    have h3 := dep_tI [1, 1]
    simp only [PyData.depth, PyData.depthAll] at *
    omega
  have d2 := dep_tI [a, b]
  have d3 : (tI [a, b]).depth ≤ 64 := by omega
  have sh : SeqAt.shaped (tI [a, b]) = true := by simp only [SeqAt.shaped, can_tI, d3, decide_true, Bool.and_self]
  have sh2 : SeqAt.shaped (.list [tI [0, 2], tI [1, 1]]) = true := by simp only [SeqAt.shaped, can, dep, decide_true, Bool.and_self]
  have e : ([tI [0, 2], tI [1, 1]].any fun d => PyData.eqv d (tI [a, b])) = decide ((a = 0 ∧ b = 2) ∨ (a = 1 ∧ b = 1)) := by
    simp only [List.any_cons, List.any_nil, eqv_tI, Bool.or_false]
    rw [Bool.eq_iff_iff, Bool.or_eq_true, decide_eq_true_eq, decide_eq_true_eq, decide_eq_true_eq]
    constructor
    · rintro (h | h)
      · injection h with h1 h2
        injection h2 with h2
        exact .inl ⟨h1.symm, h2.symm⟩
      · injection h with h1 h2
        injection h2 with h2
        exact .inr ⟨h1.symm, h2.symm⟩
    · rintro (⟨rfl, rfl⟩ | ⟨rfl, rfl⟩)
      · exact .inl rfl
      · exact .inr rfl
  have q : toPWs (refP h 8) [.tup [.int 0, .int 2], .tup [.int 1, .int 1]] = some [tI [0, 2], tI [1, 1]] := by
    rw [toPWs.eq_2, p1, toPWs.eq_2, p1, toPWs.eq_1]
  unfold inD
  simp only [p2, q]
  unfold inP
  rw [if_pos ⟨sh, sh2⟩, e]
end K14
end

-- M32
section
set_option Elab.async false
set_option linter.all false
set_option maxRecDepth 100000
set_option maxHeartbeats 1000000
namespace K14
open PySem L2 Z
def ballS (T : List Int) : Str := if rb T = true then "round" else if fb T = true then "flat" else "wild"
def lk (hd cp : Int) (K : List Int) (ms : List (List Int)) : Str :=
  if 0 < hd then (if hd = 1 ∧ K = [] ∧ ms = [] then "flat" else "wild")
  else if (0 < cp ∧ ms = []) ∨ (cp = 0 ∧ ms.length = 1) then (if 1 < cp then (if cp = 2 ∧ K = [] then "flat" else "wild") else ballS (srt (K ++ K ++ ms.flatten)))
  else if ms = [] then ballS K
  else if (K = [] ∧ ms.flatten = []) ∧ ((cp = 0 ∧ (ms.length : Int) = 2) ∨ (cp = 1 ∧ (ms.length : Int) = 1)) then "flat" else "wild"
theorem ev_ball {n i a : Nat} {s : Sl} {k : Hh} {T : List Int} (hs : s[i]? = some (some (.ref a))) (e : k[a]? = some (.lst (zs T))) : ev cfg.G (S (n+1)) (.ite (.val (.call 30 (.cons (.var i) .nil))) (.con (.str "round")) (.ite (.val (.call 31 (.cons (.var i) .nil))) (.con (.str "flat")) (.con (.str "wild")))) s k = some (.str (ballS T), k) := by
  have c1 : evT cfg.G (S (n+1)) (.val (.call 30 (.cons (.var i) .nil))) s k = some (rb T, k) := evT_val (ev_call1 (ev_var hs) (t_rb n a T k e))
  have c2 : evT cfg.G (S (n+1)) (.val (.call 31 (.cons (.var i) .nil))) s k = some (fb T, k) := evT_val (ev_call1 (ev_var hs) (t_fb n a T k e))
  refine evT_ite c1 ?_
  unfold ballS
  cases rb T with
  | true => simp only [if_true, ev.eq_2]
  | false =>
    simp only [Bool.false_eq_true, if_false]
    refine evT_ite c2 ?_
    cases fb T with
    | true => simp only [if_true, ev.eq_2]
    | false => simp only [Bool.false_eq_true, if_false, ev.eq_2]
theorem ev_two {G : GEnv} {cs : CS} {t : Ts} {a b : Str} {s : Sl} {k k' : Hh} {v : Bool} (c : evT G cs t s k = some (v, k')) : ev G cs (.ite t (.con (.str a)) (.con (.str b))) s k = some (.str (if v = true then a else b), k') := by
  refine evT_ite c ?_
  cases v <;> simp only [if_true, Bool.false_eq_true, if_false, ev.eq_2]
theorem ev_nl {G : GEnv} {cs : CS} {s : Sl} {k : Hh} : ev G cs (.lst .nil) s k = some (.ref k.length, k ++ [.lst []]) := ev_lit (by simp only [evs]) (by simp)
theorem ev_eqnil {cs : CS} {i a : Nat} {s : Sl} {k : Hh} {T : List Int} (hs : s[i]? = some (some (.ref a))) (e : k[a]? = some (.lst (zs T))) : ev cfg.G cs (.bin .eq (.var i) (.lst .nil)) s k = some (.bl (decide (T = [])), k ++ [.lst []]) := by
  refine ev_bin (ev_var hs) ev_nl ?_
  have e2 := eqP_lst (k := []) (app_at (t := [.lst []]) e) (get_last (h := k) (o := .lst []))
  simp only [prim2, e2]
theorem ev_eqnilL {cs : CS} {i a : Nat} {s : Sl} {k : Hh} {ls : List (List Int)} (hs : s[i]? = some (some (.ref a))) (e : LL k a ls) : ev cfg.G cs (.bin .eq (.var i) (.lst .nil)) s k = some (.bl (decide (ls = [])), k ++ [.lst []]) := by
  refine ev_bin (ev_var hs) ev_nl ?_
  have e2 := eqP_ll (e.app (t := [.lst []])) (ll_nil (get_last (h := k) (o := .lst [])))
  simp only [prim2, e2]
theorem LL.len1 {h : Hh} {n : Nat} {ls : List (List Int)} (q : LL h n ls) : prim1 .len (.ref n) h = some (.int ls.length, h) := by
  obtain ⟨xs, a, b⟩ := q
  simp only [prim1, a, List.length_map, b.len]
theorem ev_sumL {cs : CS} {i b : Nat} {s : Sl} {k : Hh} {ls : List (List Int)} (hs : s[i]? = some (some (.ref b))) (q : LL k b ls) (hl : ls.flatten.length ≤ 1000) : ∃ r t, ev cfg.G cs (.app .sumL (.cons (.var i) (.cons (.lst .nil) .nil))) s k = some (.ref r, k ++ t) ∧ (k ++ t)[r]? = some (.lst (zs ls.flatten)) := by
  obtain ⟨r, t, e1, e2⟩ := sumL_ll (q.app (t := [.lst []])) (get_last (h := k) (o := .lst [])) hl
  refine ⟨r, .lst [] :: t, ?_, by simpa using e2⟩
  rw [ev.eq_9]
  simp only [evs, ev_var hs, ev_nl, primN, e1]
  simp
theorem add_ll {cs : CS} {X Y : Ex} {s : Sl} {k k1 k2 : Hh} {a b : Nat} {x y : List Int} (hX : ev cfg.G cs X s k = some (.ref a, k1)) (hY : ev cfg.G cs Y s k1 = some (.ref b, k2)) (e1 : k2[a]? = some (.lst (zs x))) (e2 : k2[b]? = some (.lst (zs y))) (hl : x.length + y.length ≤ 1000) : ev cfg.G cs (.bin .add X Y) s k = some (.ref k2.length, k2 ++ [.lst (zs (x ++ y))]) := by
  refine ev_bin hX hY ?_
  simp only [prim2, e1, e2, zs_len, newL, zs_app]
  rw [if_pos (by unfold Z.line; omega)]
end K14
end

-- M33
section
set_option Elab.async false
set_option linter.all false
set_option maxRecDepth 100000
set_option maxHeartbeats 1000000
namespace K14
open PySem L2 Z
theorem fn32 (n vs h) : (S (n+1)).fn 32 vs h = Z.run cfg.G (S n) d32.fn vs h := rfl
theorem exs_ite {G : GEnv} {cs : CS} {t : Ts} {a b cc : Stms} {s : Sl} {h h1 : Hh} {v : Bool} {r : Option Out} (e : evT G cs t s h = some (v, h1)) (k : (if v = true then (match exs G cs a s h1 with
    | some (.nx s2 h2) => exs G cs cc s2 h2
    | r => r) else (match exs G cs b s h1 with
    | some (.nx s2 h2) => exs G cs cc s2 h2
    | r => r)) = r) : exs G cs (.cons (.ite t a b) cc) s h = r := by
  rw [← k]
  cases v
  · simp only [exs, ex, e]
    rfl
  · simp only [exs, ex, e]
    rfl
/-- what stands behind the first two steps -/
abbrev S6 (hd cp : Int) (v2 v3 : D) (A B : Nat) (o8 o9 : Option D) : Sl := [some (.int hd), some (.int cp), some v2, some v3, some (.ref A), none, some (.ref B), none, o8, o9]
abbrev irK : Stms := match ir32 with
  | .cons _ (.cons _ r) => r
  | _ => .nil
theorem lk_core (n : Nat) (hd cp : Int) (v2 v3 : D) (A B : Nat) (K : List Int) (ms : List (List Int)) (H : Hh) (gA : H[A]? = some (.lst (zs K))) (gB : LL H B ms) (lK : K.length ≤ 100) (lM : ms.flatten.length ≤ 100) :
    ∃ t, exs cfg.G (S (n+1)) irK (S6 hd cp v2 v3 A B none none) H = some (.rt (.str (lk hd cp K ms)) (H ++ t)) := by
  unfold irK ir32
  simp only []
  have v0 : ∀ k, ev cfg.G (S (n+1)) (.var 0) (S6 hd cp v2 v3 A B none none) k = some (.int hd, k) := fun k => ev_var rfl
  have v1 : ∀ k, ev cfg.G (S (n+1)) (.var 1) (S6 hd cp v2 v3 A B none none) k = some (.int cp, k) := fun k => ev_var rfl
  have v4 : ∀ k, ev cfg.G (S (n+1)) (.var 4) (S6 hd cp v2 v3 A B none none) k = some (.ref A, k) := fun k => ev_var rfl
  have v6 : ∀ k, ev cfg.G (S (n+1)) (.var 6) (S6 hd cp v2 v3 A B none none) k = some (.ref B, k) := fun k => ev_var rfl
  have c1 : evT cfg.G (S (n+1)) (.val (.bin .gt (.var 0) (.con (.int 0)))) (S6 hd cp v2 v3 A B none none) H = some (decide (0 < hd), H) := evT_val (ev_bin (v0 _) (by rw [ev.eq_2]) rfl)
  by_cases p0 : 0 < hd
  · rw [decide_eq_true p0] at c1
    have q1 : ev cfg.G (S (n+1)) (.tup (.cons (.var 0) (.cons (.var 4) (.cons (.var 6) .nil)))) (S6 hd cp v2 v3 A B none none) H = some (.tup [.int hd, .ref A, .ref B], H) := by
      rw [ev.eq_4]
      simp only [evs, v0, v4, v6]
      rfl
    have q2 : ev cfg.G (S (n+1)) (.tup (.cons (.con (.int 1)) (.cons (.lst .nil) (.cons (.lst .nil) .nil)))) (S6 hd cp v2 v3 A B none none) H = some (.tup [.int 1, .ref H.length, .ref (H ++ [O.lst []]).length], H ++ [.lst []] ++ [.lst []]) := by
      rw [ev.eq_4]
      simp only [evs, ev.eq_2, ev_nl]
      rfl
    have q3 : evT cfg.G (S (n+1)) (.val (.bin .eq (.tup (.cons (.var 0) (.cons (.var 4) (.cons (.var 6) .nil)))) (.tup (.cons (.con (.int 1)) (.cons (.lst .nil) (.cons (.lst .nil) .nil)))))) (S6 hd cp v2 v3 A B none none) H = some (decide (hd = 1 ∧ K = [] ∧ ms = []), H ++ [.lst []] ++ [.lst []]) := by
      refine evT_val (ev_bin q1 q2 ?_)
      have e := eqP_three (hd := hd) (app_at (app_at gA (t := [.lst []])) (t := [.lst []])) (gB.app (t := [.lst []])).app (app_at (t := [.lst []]) (get_last (h := H) (o := .lst []))) (get_last (h := H ++ [.lst []]) (o := .lst []))
      simp only [prim2, e]
    refine ⟨[.lst [], .lst []], exs_rt (v := .str (lk hd cp K ms)) (ex_ite c1 (exs_rt (ex_ret ?_)))⟩
    have e := ev_two (a := "flat") (b := "wild") q3
    rw [e]
    unfold lk
    rw [if_pos p0]
    simp
  · rw [decide_eq_false p0] at c1
    have c2 : ∃ t, evT cfg.G (S (n+1)) (.or (.and (.val (.bin .gt (.var 1) (.con (.int 0)))) (.val (.bin .eq (.var 6) (.lst .nil)))) (.and (.val (.bin .eq (.var 1) (.con (.int 0)))) (.val (.bin .eq (.app .len (.cons (.var 6) .nil)) (.con (.int 1)))))) (S6 hd cp v2 v3 A B none none) H = some (decide ((0 < cp ∧ ms = []) ∨ (cp = 0 ∧ ms.length = 1)), H ++ t) := by
      have d1 : evT cfg.G (S (n+1)) (.val (.bin .gt (.var 1) (.con (.int 0)))) (S6 hd cp v2 v3 A B none none) H = some (decide (0 < cp), H) := evT_val (ev_bin (v1 _) (by rw [ev.eq_2]) rfl)
      have d2 : evT cfg.G (S (n+1)) (.val (.bin .eq (.var 6) (.lst .nil))) (S6 hd cp v2 v3 A B none none) H = some (decide (ms = []), H ++ [.lst []]) := evT_val (ev_eqnilL rfl gB)
      have d3 : ∀ k, evT cfg.G (S (n+1)) (.val (.bin .eq (.var 1) (.con (.int 0)))) (S6 hd cp v2 v3 A B none none) k = some (cp == 0, k) := fun k => evT_val (ev_bin (v1 _) (by rw [ev.eq_2]) (by simp only [prim2, eqP_int]))
      have d4 : evT cfg.G (S (n+1)) (.val (.bin .eq (.app .len (.cons (.var 6) .nil)) (.con (.int 1)))) (S6 hd cp v2 v3 A B none none) H = some ((ms.length : Int) == 1, H) := evT_val (ev_bin (ev_app1 (v6 _) gB.len1) (by rw [ev.eq_2]) (by simp only [prim2, eqP_int]))
      rw [evT.eq_4, evT.eq_3, d1]
      by_cases p1 : 0 < cp
      · have p2 : (cp == 0) = false := by simp; omega
        simp only [p1, decide_true, d2]
        by_cases p3 : ms = []
        · exact ⟨[.lst []], by simp [p3]⟩
        · refine ⟨[.lst []], ?_⟩
          have p4 : ¬ cp = 0 := by omega
          simp only [p3, decide_false, evT.eq_3, d3, p2]
          simp [p3, p4]
      · simp only [p1, decide_false, evT.eq_3, d3]
        refine ⟨[], ?_⟩
        by_cases p2 : cp = 0
        · have p3 : (cp == 0) = true := by simp [p2]
          have p4 : ((ms.length : Int) == 1) = decide (ms.length = 1) := by
            rw [Bool.eq_iff_iff]
            simp
            omega
          simp only [p3, d4, p4]
          simp [p2]
        · have p3 : (cp == 0) = false := by simp [p2]
          simp only [p3]
          simp [p2]
    obtain ⟨t2, c2⟩ := c2
    have step : exs cfg.G (S (n+1)) ir32 = exs cfg.G (S (n+1)) ir32 := rfl
    by_cases p1 : (0 < cp ∧ ms = []) ∨ (cp = 0 ∧ ms.length = 1)
    · rw [decide_eq_true p1] at c2
      have d1 : evT cfg.G (S (n+1)) (.val (.bin .gt (.var 1) (.con (.int 1)))) (S6 hd cp v2 v3 A B none none) (H ++ t2) = some (decide (1 < cp), H ++ t2) := evT_val (ev_bin (v1 _) (by rw [ev.eq_2]) rfl)
      by_cases p2 : 1 < cp
      · rw [decide_eq_true p2] at d1
        have d2 : ∃ t, evT cfg.G (S (n+1)) (.and (.val (.bin .eq (.var 1) (.con (.int 2)))) (.val (.bin .eq (.var 4) (.lst .nil)))) (S6 hd cp v2 v3 A B none none) (H ++ t2) = some (decide (cp = 2 ∧ K = []), H ++ t2 ++ t) := by
          have d3 : evT cfg.G (S (n+1)) (.val (.bin .eq (.var 1) (.con (.int 2)))) (S6 hd cp v2 v3 A B none none) (H ++ t2) = some (cp == 2, H ++ t2) := evT_val (ev_bin (v1 _) (by rw [ev.eq_2]) (by simp only [prim2, eqP_int]))
          have d4 : evT cfg.G (S (n+1)) (.val (.bin .eq (.var 4) (.lst .nil))) (S6 hd cp v2 v3 A B none none) (H ++ t2) = some (decide (K = []), H ++ t2 ++ [.lst []]) := evT_val (ev_eqnil rfl (app_at gA))
          rw [evT.eq_3, d3]
          by_cases p3 : cp = 2
          · have p4 : (cp == 2) = true := by simp [p3]
            refine ⟨[.lst []], ?_⟩
            simp only [p4, d4]
            simp [p3]
          · have p4 : (cp == 2) = false := by simp [p3]
            refine ⟨[], ?_⟩
            simp only [p4]
            simp [p3]
        obtain ⟨t3, d2⟩ := d2
        refine ⟨t2 ++ t3, exs_nx (ex_ite c1 (by rfl)) (exs_rt (v := .str (lk hd cp K ms)) (ex_ite c2 (exs_rt (ex_ite d1 (exs_rt (ex_ret ?_))))))⟩
        rw [ev_two (a := "flat") (b := "wild") d2]
        unfold lk
        rw [if_neg p0, if_pos p1, if_pos p2, List.append_assoc]
        simp
      · rw [decide_eq_false p2] at d1
        have gA2 : (H ++ t2)[A]? = some (.lst (zs K)) := app_at gA
        have e1 := add_ll (cs := S (n+1)) (X := .var 4) (Y := .var 4) (s := S6 hd cp v2 v3 A B none none) (v4 (H ++ t2)) (v4 _) gA2 gA2 (by omega)
        obtain ⟨r, t3, e2, e3⟩ := ev_sumL (cs := S (n+1)) (i := 6) (s := S6 hd cp v2 v3 A B none none) rfl (gB.app.app (t := [.lst (zs (K ++ K))]) (h := H ++ t2)) (by omega)
        have e4 := add_ll (cs := S (n+1)) e1 e2 (app_at (get_last (h := H ++ t2) (o := .lst (zs (K ++ K))))) e3 (by simp only [List.length_append]; omega)
        generalize hk : H ++ t2 ++ [O.lst (zs (K ++ K))] ++ t3 = k at *
        have e5 := sorted_zs' (v := .ref k.length) (l := K ++ K ++ ms.flatten) (h := k ++ [.lst (zs (K ++ K ++ ms.flatten))]) (.inr ⟨_, rfl, get_last⟩) (by simp only [List.length_append]; omega)
        have e6 : ev cfg.G (S (n+1)) (.app .sorted (.cons (.bin .add (.bin .add (.var 4) (.var 4)) (.app .sumL (.cons (.var 6) (.cons (.lst .nil) .nil)))) .nil)) (S6 hd cp v2 v3 A B none none) (H ++ t2) = _ := ev_app1 e4 e5
        have e7 := ev_ball (n := n) (i := 8) (s := S6 hd cp v2 v3 A B (some (.ref (k ++ [O.lst (zs (K ++ K ++ ms.flatten))]).length)) none) (k := k ++ [.lst (zs (K ++ K ++ ms.flatten))] ++ [.lst (zs (srt (K ++ K ++ ms.flatten)))]) (T := srt (K ++ K ++ ms.flatten)) rfl get_last
        refine ⟨t2 ++ ([.lst (zs (K ++ K))] ++ (t3 ++ ([.lst (zs (K ++ K ++ ms.flatten))] ++ [.lst (zs (srt (K ++ K ++ ms.flatten)))]))), exs_nx (ex_ite c1 (by rfl)) (exs_rt (v := .str (lk hd cp K ms)) (ex_ite c2 (exs_nx (ex_ite d1 (by rfl)) (exs_nx (ex_asg (i := 8) e6) (exs_rt (ex_ret ?_))))))⟩
        refine e7.trans ?_
        unfold lk
        rw [if_neg p0, if_pos p1, if_neg p2, ← hk]
        simp only [List.append_assoc]
    · rw [decide_eq_false p1] at c2
      have gB2 : LL (H ++ t2) B ms := gB.app
      have gA2 : (H ++ t2)[A]? = some (.lst (zs K)) := app_at gA
      have d1 : evT cfg.G (S (n+1)) (.val (.bin .eq (.var 6) (.lst .nil))) (S6 hd cp v2 v3 A B none none) (H ++ t2) = some (decide (ms = []), H ++ t2 ++ [.lst []]) := evT_val (ev_eqnilL rfl gB2)
      by_cases p2 : ms = []
      · rw [decide_eq_true p2] at d1
        have e7 := ev_ball (n := n) (i := 4) (s := S6 hd cp v2 v3 A B none none) (k := H ++ t2 ++ [.lst []]) (T := K) rfl (app_at gA2)
        refine ⟨t2 ++ [.lst []], exs_nx (ex_ite c1 (by rfl)) (exs_nx (ex_ite c2 (by rfl)) (exs_rt (v := .str (lk hd cp K ms)) (ex_ite d1 (exs_rt (ex_ret ?_)))))⟩
        refine e7.trans ?_
        unfold lk
        rw [if_neg p0, if_neg p1, if_pos p2]
        simp only [List.append_assoc]
      · rw [decide_eq_false p2] at d1
        generalize hk3 : H ++ t2 ++ [O.lst []] = k3 at *
        have gA3 : k3[A]? = some (.lst (zs K)) := by rw [← hk3]; exact app_at gA2
        have gB3 : LL k3 B ms := by rw [← hk3]; exact gB2.app
        have d2 : ev cfg.G (S (n+1)) (.bin .eq (.var 4) (.lst .nil)) (S6 hd cp v2 v3 A B none none) k3 = some (.bl (decide (K = [])), k3 ++ [.lst []]) := ev_eqnil rfl gA3
        obtain ⟨r, t4, d3, d4⟩ := ev_sumL (cs := S (n+1)) (i := 6) (s := S6 hd cp v2 v3 A B none none) rfl (gB3.app (t := [.lst []])) (by omega)
        have d5 : ev cfg.G (S (n+1)) (.bin .eq (.app .sumL (.cons (.var 6) (.cons (.lst .nil) .nil))) (.lst .nil)) (S6 hd cp v2 v3 A B none none) (k3 ++ [.lst []]) = some (.bl (decide (ms.flatten = [])), k3 ++ [.lst []] ++ t4 ++ [.lst []]) := by
          refine ev_bin d3 ev_nl ?_
          have e2 := eqP_lst (k := []) (app_at (t := [.lst []]) d4) (get_last (h := k3 ++ [.lst []] ++ t4) (o := .lst []))
          simp only [prim2, e2]
        have d6 : ∃ t, ev cfg.G (S (n+1)) (.and (.bin .eq (.var 4) (.lst .nil)) (.bin .eq (.app .sumL (.cons (.var 6) (.cons (.lst .nil) .nil))) (.lst .nil))) (S6 hd cp v2 v3 A B none none) k3 = some (.bl (decide (K = [] ∧ ms.flatten = [])), k3 ++ t) := by
          by_cases p3 : K = []
          · rw [decide_eq_true p3] at d2
            refine ⟨[.lst []] ++ (t4 ++ [.lst []]), ev_and d2 ?_⟩
            rw [if_pos rfl, d5]
            simp [p3]
          · rw [decide_eq_false p3] at d2
            refine ⟨[.lst []], ev_and d2 ?_⟩
            simp [p3]
        obtain ⟨t5, d6⟩ := d6
        have d7 : evT cfg.G (S (n+1)) (.and (.val (.var 9)) (.val (.bin .inn (.tup (.cons (.var 1) (.cons (.app .len (.cons (.var 6) .nil)) .nil))) (.tup (.cons (.tup (.cons (.con (.int 0)) (.cons (.con (.int 2)) .nil))) (.cons (.tup (.cons (.con (.int 1)) (.cons (.con (.int 1)) .nil))) .nil)))))) (S6 hd cp v2 v3 A B none (some (.bl (decide (K = [] ∧ ms.flatten = []))))) (k3 ++ t5) = some (decide (K = [] ∧ ms.flatten = []) && decide ((cp = 0 ∧ (ms.length : Int) = 2) ∨ (cp = 1 ∧ (ms.length : Int) = 1)), k3 ++ t5) := by
          have f1 : evT cfg.G (S (n+1)) (.val (.var 9)) (S6 hd cp v2 v3 A B none (some (.bl (decide (K = [] ∧ ms.flatten = []))))) (k3 ++ t5) = some (decide (K = [] ∧ ms.flatten = []), k3 ++ t5) := evT_val (ev_var rfl)
          rw [evT.eq_3, f1]
          cases decide (K = [] ∧ ms.flatten = []) with
          | false => rfl
          | true =>
            simp only [Bool.true_and]
            have w1 := ev_var (G := cfg.G) (cs := S (n+1)) (k := 1) (s := S6 hd cp v2 v3 A B none (some (.bl true))) (h := k3 ++ t5) rfl
            have w6 := ev_app1 (G := cfg.G) (cs := S (n+1)) (p := .len) (X := .var 6) (s := S6 hd cp v2 v3 A B none (some (.bl true))) (h := k3 ++ t5) (ev_var rfl) (gB3.app (t := t5)).len1
            refine evT_val (ev_bin (d1 := .tup [.int cp, .int ms.length]) (h1 := k3 ++ t5) ?_ (d2 := .tup [.tup [.int 0, .int 2], .tup [.int 1, .int 1]]) (h2 := k3 ++ t5) ?_ ?_)
            · rw [ev.eq_4]
              simp only [evs, w1, w6]
              rfl
            · simp only [ev, evs]
              rfl
            · simp only [prim2, inD_pair]
        refine ⟨t2 ++ ([.lst []] ++ t5), exs_nx (ex_ite c1 (by rfl)) (exs_nx (ex_ite c2 (by rfl)) (exs_nx (ex_ite d1 (by rfl)) (exs_nx (ex_asg (i := 9) d6) (exs_rt (v := .str (lk hd cp K ms)) (ex_ret ?_)))))⟩
        refine (ev_two (a := "flat") (b := "wild") d7).trans ?_
        unfold lk
        rw [if_neg p0, if_neg p1, if_neg p2, ← hk3]
        simp
theorem t_lawkind (n : Nat) (hd cp : Int) (v2 v3 : D) (l : List Int) (xs : List D) (rs : List (List Int)) (h : Hh) (q1 : SeqV h v2 (zs l)) (q2 : SeqV h v3 xs) (p : PWV h xs rs) (l1 : l.length ≤ 100) (l2 : rs.flatten.length ≤ 100) (l3 : rs.length ≤ 100) (l4 : ∀ r ∈ rs, r.length ≤ 1000) :
    (S (n+2)).fn 32 [.int hd, .int cp, v2, v3] h = some (.str (lk hd cp (srt (big l)) (rs.map big)), h) := by
  obtain ⟨g1, i1, i2⟩ := q1.it
  have lb : (big l).length ≤ l.length := big_le
  have b1 := ev_bigG (G := cfg.G) (cs := S (n+1)) (it := .seq (.var 2)) (s := [some (.int hd), some (.int cp), some v2, some v3, none, none, none, none, none, none]) (l := l) (g := g1) (h := h) (h1 := h) (i := 5) (evI_seq rfl i1) (by simp) i2 (by omega)
  have b2 := ev_app1 (p := .sorted) b1 (sorted_zs' (.inr ⟨_, rfl, get_last⟩) (by omega))
  generalize hk : h ++ [O.lst (zs (big l))] = k at *
  have q3 : SeqV (k ++ [.lst (zs (srt (big l)))]) v3 xs := by
    rw [← hk]
    exact q2.app.app
  have p3 : PWV (k ++ [.lst (zs (srt (big l)))]) xs rs := by
    rw [← hk]
    exact p.app.app
  obtain ⟨g2, i3, i4⟩ := q3.it
  have b3 := ev_rimsG (G := cfg.G) (cs := S (n+1)) (it := .seq (.var 3)) (s := [some (.int hd), some (.int cp), some v2, some v3, some (.ref k.length), none, none, none, none, none]) (xs := xs) (rs := rs) (g := g2) (h := k ++ [.lst (zs (srt (big l)))]) (h1 := k ++ [.lst (zs (srt (big l)))]) (i := 5) (j := 7) (evI_seq rfl i3) p3 (by simp) (by simp) i4 (by omega) l4
  generalize hm : k ++ [O.lst (zs (srt (big l)))] = m at *
  have gA : (m ++ O.lst (refs (m.length + 1) rs.length) :: rs.map fun r => O.lst (zs (big r)))[k.length]? = some (.lst (zs (srt (big l)))) := by
    refine app_at ?_
    rw [← hm]
    exact get_last
  have gB : LL (m ++ O.lst (refs (m.length + 1) rs.length) :: rs.map fun r => O.lst (zs (big r))) m.length (rs.map big) := by
    refine ⟨nums (m.length + 1) rs.length, ?_, ?_⟩
    · rw [← refs_nums]
      simp
    · have := lsat_nums (h := m ++ [.lst (refs (m.length + 1) rs.length)]) (rs.map big) (m.length + 1) [] (by simp)
      rw [List.length_map] at this
      simpa [Function.comp_def] using this
  have lf : ((rs.map big).flatten).length ≤ 100 := by
    rw [big_flat]
    have : (big rs.flatten).length ≤ rs.flatten.length := big_le
    omega
  obtain ⟨t, c⟩ := lk_core n hd cp v2 v3 k.length m.length (srt (big l)) (rs.map big) _ gA gB (by
    rw [(srt_perm (big l)).length_eq]
    omega) lf
  rw [fn32]
  simp only [d32, DefT.fn]
  refine run_rt (f := { np := 4, nn := 10, body := ir32 }) rfl (exs_nx (ex_asg (i := 4) b2) (exs_nx (ex_asg (i := 6) b3) c)) ?_
  rw [← hm, ← hk]
  simp only [List.append_assoc]
  exact gcs2
end K14
end

-- M34
section
set_option Elab.async false
set_option linter.all false
set_option maxRecDepth 100000
set_option maxHeartbeats 1000000
namespace K14
open PySem L2 Z
/-! ### the plain law -/
def W9 : List Int := [2, 3, 4, 5, 6, 7, 60, 119, 120]
def OkV (l : List Int) : Prop := ∀ i ∈ l, i = 1 ∨ i ∈ W9
theorem wt_w9 : ∀ i ∈ W9, 7140 ≤ wt i ∧ wt i ≤ 14161 ∧ (i ≠ 2 → 9520 ≤ wt i) := by decide
theorem nice_w9 : ∀ i ∈ W9, 1 < i ∧ i ≤ 120 ∧ i * (14280 / i) = 14280 := by decide
theorem OkV.nice {l : List Int} (o : OkV l) : Nice l := fun m hm => by
  rcases o m hm with rfl | h
  · decide
  · have := nice_w9 m h
    omega
theorem OkV.ord {l : List Int} (o : OkV l) : OkOrd l := fun m hm => ⟨(o.nice m hm).1, (o.nice m hm).2.1⟩
theorem lost_app (a b : List Int) : lost (a ++ b) = lost a + lost b := by
  simp [lost, List.sum_append]
theorem lost_cons (a : Int) (b : List Int) : lost (a :: b) = wt a + lost b := by
  simp [lost]
theorem OkV.cons {a : Int} {l : List Int} (o : OkV (a :: l)) : (a = 1 ∨ a ∈ W9) ∧ OkV l := ⟨o a List.mem_cons_self, fun i hi => o i (List.mem_cons_of_mem _ hi)⟩
theorem lost_big : ∀ {l : List Int}, OkV l → lost (big l) = lost l
  | [], _ => rfl
  | a :: l, o => by
    obtain ⟨ha, o'⟩ := o.cons
    rcases ha with rfl | ha
    · have e : big (1 :: l) = big l := by simp [big]
      rw [e, lost_big o', lost_cons]
      have : wt 1 = 0 := by decide
      omega
    · have h1 := (nice_w9 a ha).1
      have e : big (a :: l) = a :: big l := by simp [big, h1]
      rw [e, lost_cons, lost_cons, lost_big o']
def In9 (l : List Int) : Prop := ∀ i ∈ l, i ∈ W9
theorem in9_big {l : List Int} (o : OkV l) : In9 (big l) := fun i hi => by
  obtain ⟨h1, h2⟩ := big_mem hi
  rcases o i h1 with rfl | h
  · exact absurd h2 (by decide)
  · exact h
theorem In9.perm {a b : List Int} (o : In9 b) (p : a.Perm b) : In9 a := fun i hi => o i (p.mem_iff.mp hi)
theorem In9.app {a b : List Int} (x : In9 a) (y : In9 b) : In9 (a ++ b) := fun i hi => (List.mem_append.mp hi).elim (x i) (y i)
theorem lost_ge : ∀ {l : List Int}, In9 l → 7140 * (l.length : Int) ≤ lost l ∧ lost l ≤ 14161 * (l.length : Int)
  | [], _ => by simp [lost]
  | a :: l, o => by
    have h1 := wt_w9 a (o a List.mem_cons_self)
    have h2 := lost_ge (l := l) fun i hi => o i (List.mem_cons_of_mem _ hi)
    rw [lost_cons, List.length_cons]
    omega
theorem kind_neg {b : Int} (h : b < 0) : kindS b = "wild" := by simp [kindS, h]
theorem kind_zero : kindS 0 = "flat" := rfl
theorem kind_pos {b : Int} (h : 0 < b) : kindS b = "round" := by
  have h1 : ¬ b < 0 := by omega
  have h2 : ¬ b = 0 := by omega
  simp [kindS, h1, h2]
theorem kind_two {b : Int} : kindS (2 * b) = kindS b := by
  rcases Int.lt_trichotomy b 0 with h | h | h
  · rw [kind_neg h, kind_neg (by omega)]
  · subst h; rfl
  · rw [kind_pos h, kind_pos (by omega)]
def strB (a b : Str) : Bool := decide (a = b)
theorem ball3 : ∀ a ∈ W9, ∀ b ∈ W9, ∀ c ∈ W9, (decide (a ≤ b) && decide (b ≤ c)) = true → (strB (kindS (57120 - 2 * (wt a + (wt b + (wt c + 0))))) (ballS [a, b, c]) && (decide (0 < 57120 - 2 * (wt a + (wt b + (wt c + 0))) → 238 ≤ 57120 - 2 * (wt a + (wt b + (wt c + 0)))) && decide (57120 - 2 * (wt a + (wt b + (wt c + 0))) < 0 → 57120 - 2 * (wt a + (wt b + (wt c + 0))) ≤ -680))) = true := by decide +kernel
theorem ball (T : List Int) (o : In9 T) (s : T.Pairwise (· ≤ ·)) : kindS (57120 - 2 * lost T) = ballS T ∧ (0 < 57120 - 2 * lost T → 238 ≤ 57120 - 2 * lost T) ∧ (57120 - 2 * lost T < 0 → 57120 - 2 * lost T ≤ -680) := by
  have g := lost_ge o
  match T with
  | [] => exact ⟨rfl, by simp [lost], by simp [lost]⟩
  | [a] =>
    simp only [List.length_cons, List.length_nil] at g
    exact ⟨kind_pos (by omega), by omega, by omega⟩
  | [a, b] =>
    simp only [List.length_cons, List.length_nil] at g
    exact ⟨kind_pos (by omega), by omega, by omega⟩
  | [a, b, c] =>
    have h1 : a ≤ b := by
      simp only [List.pairwise_cons, List.mem_cons, List.not_mem_nil, or_false] at s
      exact s.1 b (.inl rfl)
    have h2 : b ≤ c := by
      simp only [List.pairwise_cons, List.mem_cons, List.not_mem_nil, or_false] at s
      exact s.2.1 c rfl
    have e := ball3 a (o a (by simp)) b (o b (by simp)) c (o c (by simp)) (by simp [h1, h2])
    simp only [Bool.and_eq_true, decide_eq_true_eq, strB] at e
    have hl : lost [a, b, c] = wt a + (wt b + (wt c + 0)) := by simp [lost]
    rw [hl]
    exact ⟨e.1, e.2.1, e.2.2⟩
  | [a, b, c, d] =>
    have ha := wt_w9 a (o a (by simp))
    have hb := wt_w9 b (o b (by simp))
    have hc := wt_w9 c (o c (by simp))
    have hd := wt_w9 d (o d (by simp))
    have hl : lost [a, b, c, d] = wt a + (wt b + (wt c + (wt d + 0))) := by simp [lost]
    by_cases e : a = 2 ∧ b = 2 ∧ c = 2 ∧ d = 2
    · obtain ⟨rfl, rfl, rfl, rfl⟩ := e
      exact ⟨by decide, by decide, by decide⟩
    · have hlt : 57120 - 2 * lost [a, b, c, d] ≤ -4760 := by
        rw [hl]
        omega
      have hb : ballS [a, b, c, d] = "wild" := by
        have h0 : rb [a, b, c, d] = false := rfl
        have h1 : fb [a, b, c, d] = false := by simp [fb]; omega
        simp [ballS, h0, h1]
      exact ⟨by rw [hb, kind_neg (by omega)], by omega, by omega⟩
  | a :: b :: c :: d :: e :: T =>
    simp only [List.length_cons] at g
    have hb : ballS (a :: b :: c :: d :: e :: T) = "wild" := by
      have h0 : rb (a :: b :: c :: d :: e :: T) = false := rfl
      have h1 : fb (a :: b :: c :: d :: e :: T) = false := by simp [fb]
      simp [ballS, h0, h1]
    exact ⟨by rw [hb, kind_neg (by omega)], by omega, by omega⟩
end K14
end

-- M35
section
set_option Elab.async false
set_option linter.all false
set_option maxRecDepth 100000
set_option maxHeartbeats 1000000
namespace K14
open PySem L2 Z
def HC (hd cp : Int) : Prop := (hd = 0 ∧ cp = 0) ∨ (hd = 1 ∧ cp = 0) ∨ (hd = 0 ∧ cp = 1) ∨ (hd = 0 ∧ cp = 2) ∨ (hd = 2 ∧ cp = 0) ∨ (hd = 0 ∧ cp = 3)
theorem OkV.sub {l k : List Int} (o : OkV l) (h : ∀ i ∈ k, i ∈ l) : OkV k := fun i hi => o i (h i hi)
theorem flat_nil {α : Type} : ([] : List (List α)).flatten = [] := rfl
theorem law_plain (hd cp : Int) (l : List Int) (rs : List (List Int)) (hc : HC hd cp) (o1 : OkV l) (o2 : OkV rs.flatten) :
    kindS (bal hd cp l rs) = lk hd cp (srt (big l)) (rs.map big) ∧ (0 < bal hd cp l rs → 119 ≤ bal hd cp l rs) ∧ (bal hd cp l rs < 0 → bal hd cp l rs ≤ -340) ∧ bal hd cp l rs ≤ 57120 := by
  have i1 := in9_big o1
  have i2 := in9_big o2
  have s1 := lost_big o1
  have s2 := lost_big o2
  have g1 := lost_ge i1
  have g2 := lost_ge i2
  have pk := srt_perm (big l)
  have lenK := pk.length_eq
  have hKn : srt (big l) = [] ↔ (big l).length = 0 := by
    rw [← lenK]
    exact List.length_eq_zero_iff.symm
  have hMn : rs.map big = [] ↔ rs.length = 0 := by
    rw [List.map_eq_nil_iff]
    exact List.length_eq_zero_iff.symm
  have hMl : (rs.map big).length = rs.length := List.length_map _
  have hF : (rs.map big).flatten = big rs.flatten := big_flat rs
  have hFn : (rs.map big).flatten = [] ↔ (big rs.flatten).length = 0 := by
    rw [hF]
    exact List.length_eq_zero_iff.symm
  have F0 : rs.length = 0 → (big rs.flatten).length = 0 := fun h => by
    have : rs = [] := List.length_eq_zero_iff.mp h
    subst this
    rfl
  have hb : bal hd cp l rs = 2 * (2 - 2 * hd - cp - (rs.length : Int)) * 14280 - (2 * lost (big l) + lost (big rs.flatten)) := by
    unfold bal
    rw [s1, s2]
  generalize hB : bal hd cp l rs = B at *
  have wild : lk hd cp (srt (big l)) (rs.map big) = "wild" → B ≤ -340 → kindS B = lk hd cp (srt (big l)) (rs.map big) ∧ (0 < B → 119 ≤ B) ∧ (B < 0 → B ≤ -340) ∧ B ≤ 57120 := fun h1 h2 => by
    rw [h1, kind_neg (by omega)]
    exact ⟨rfl, by omega, by omega, by omega⟩
  have flat : lk hd cp (srt (big l)) (rs.map big) = "flat" → B = 0 → kindS B = lk hd cp (srt (big l)) (rs.map big) ∧ (0 < B → 119 ≤ B) ∧ (B < 0 → B ≤ -340) ∧ B ≤ 57120 := fun h1 h2 => by
    rw [h1, h2]
    exact ⟨rfl, by omega, by omega, by omega⟩
  have ballK : lk hd cp (srt (big l)) (rs.map big) = ballS (srt (big l)) → B = 57120 - 2 * lost (big l) → kindS B = lk hd cp (srt (big l)) (rs.map big) ∧ (0 < B → 119 ≤ B) ∧ (B < 0 → B ≤ -340) ∧ B ≤ 57120 := fun h1 h2 => by
    obtain ⟨e1, e2, e3⟩ := ball (srt (big l)) (i1.perm pk) (srt_sorted _)
    rw [lost_perm pk] at e1 e2 e3
    rw [h1, h2]
    exact ⟨e1, by omega, by omega, by omega⟩
  have ballT : lk hd cp (srt (big l)) (rs.map big) = ballS (srt (srt (big l) ++ srt (big l) ++ (rs.map big).flatten)) → B = 28560 - (2 * lost (big l) + lost (big rs.flatten)) → kindS B = lk hd cp (srt (big l)) (rs.map big) ∧ (0 < B → 119 ≤ B) ∧ (B < 0 → B ≤ -340) ∧ B ≤ 57120 := fun h1 h2 => by
    have iT : In9 (srt (big l) ++ srt (big l) ++ (rs.map big).flatten) := by
      rw [hF]
      exact ((i1.perm pk).app (i1.perm pk)).app i2
    have pT := srt_perm (srt (big l) ++ srt (big l) ++ (rs.map big).flatten)
    obtain ⟨e1, e2, e3⟩ := ball _ (iT.perm pT) (srt_sorted _)
    have lT : lost (srt (srt (big l) ++ srt (big l) ++ (rs.map big).flatten)) = 2 * lost (big l) + lost (big rs.flatten) := by
      rw [lost_perm pT, lost_app, lost_app, lost_perm pk, hF]
      omega
    rw [lT] at e1 e2 e3
    rw [h1, ← e1]
    have h3 : 57120 - 2 * (2 * lost (big l) + lost (big rs.flatten)) = 2 * B := by omega
    rw [h3] at e2 e3 ⊢
    exact ⟨kind_two.symm, by omega, by omega, by omega⟩
  rcases hc with ⟨rfl, rfl⟩ | ⟨rfl, rfl⟩ | ⟨rfl, rfl⟩ | ⟨rfl, rfl⟩ | ⟨rfl, rfl⟩ | ⟨rfl, rfl⟩
  · -- no handle, no cap
    match hr : rs.length with
    | 0 =>
      have f0 := F0 hr
      refine ballK ?_ (by omega)
      unfold lk
      rw [if_neg (by omega), if_neg (by rw [hMl]; omega), if_pos (hMn.mpr hr)]
    | 1 =>
      refine ballT ?_ (by omega)
      unfold lk
      rw [if_neg (by omega), if_pos (by rw [hMl]; omega), if_neg (by omega)]
    | 2 =>
      by_cases z : (big l).length = 0 ∧ (big rs.flatten).length = 0
      · refine flat ?_ (by omega)
        unfold lk
        rw [if_neg (by omega), if_neg (by rw [hMl]; omega), if_neg (by rw [hMn]; omega), if_pos ⟨⟨hKn.mpr z.1, hFn.mpr z.2⟩, by rw [hMl]; omega⟩]
      · refine wild ?_ (by omega)
        unfold lk
        rw [if_neg (by omega), if_neg (by rw [hMl]; omega), if_neg (by rw [hMn]; omega), if_neg (fun q => z ⟨hKn.mp q.1.1, hFn.mp q.1.2⟩)]
    | r + 3 =>
      refine wild ?_ (by omega)
      unfold lk
      rw [if_neg (by omega), if_neg (by rw [hMl]; omega), if_neg (by rw [hMn]; omega), if_neg (by rw [hMl]; omega)]
  · -- a handle
    by_cases z : (big l).length = 0 ∧ rs.length = 0
    · have f0 := F0 z.2
      refine flat ?_ (by omega)
      unfold lk
      rw [if_pos (by omega), if_pos ⟨rfl, hKn.mpr z.1, hMn.mpr z.2⟩]
    · refine wild ?_ (by omega)
      unfold lk
      rw [if_pos (by omega), if_neg (fun q => z ⟨hKn.mp q.2.1, hMn.mp q.2.2⟩)]
  · -- a cap
    match hr : rs.length with
    | 0 =>
      have f0 := F0 hr
      refine ballT ?_ (by omega)
      unfold lk
      rw [if_neg (by omega), if_pos (.inl ⟨by omega, hMn.mpr hr⟩), if_neg (by omega)]
    | 1 =>
      by_cases z : (big l).length = 0 ∧ (big rs.flatten).length = 0
      · refine flat ?_ (by omega)
        unfold lk
        rw [if_neg (by omega), if_neg (by rw [hMn]; omega), if_neg (by rw [hMn]; omega), if_pos ⟨⟨hKn.mpr z.1, hFn.mpr z.2⟩, by rw [hMl]; omega⟩]
      · refine wild ?_ (by omega)
        unfold lk
        rw [if_neg (by omega), if_neg (by rw [hMn]; omega), if_neg (by rw [hMn]; omega), if_neg (fun q => z ⟨hKn.mp q.1.1, hFn.mp q.1.2⟩)]
    | r + 2 =>
      refine wild ?_ (by omega)
      unfold lk
      rw [if_neg (by omega), if_neg (by rw [hMn]; omega), if_neg (by rw [hMn]; omega), if_neg (by rw [hMl]; omega)]
  · -- two caps
    match hr : rs.length with
    | 0 =>
      have f0 := F0 hr
      by_cases z : (big l).length = 0
      · refine flat ?_ (by omega)
        unfold lk
        rw [if_neg (by omega), if_pos (.inl ⟨by omega, hMn.mpr hr⟩), if_pos (by omega), if_pos ⟨rfl, hKn.mpr z⟩]
      · refine wild ?_ (by omega)
        unfold lk
        rw [if_neg (by omega), if_pos (.inl ⟨by omega, hMn.mpr hr⟩), if_pos (by omega), if_neg (fun q => z (hKn.mp q.2))]
    | r + 1 =>
      refine wild ?_ (by omega)
      unfold lk
      rw [if_neg (by omega), if_neg (by rw [hMn]; omega), if_neg (by rw [hMn]; omega), if_neg (by omega)]
  · -- two handles
    refine wild ?_ (by omega)
    unfold lk
    rw [if_pos (by omega), if_neg (by omega)]
  · -- three caps
    match hr : rs.length with
    | 0 =>
      refine wild ?_ (by omega)
      unfold lk
      rw [if_neg (by omega), if_pos (.inl ⟨by omega, hMn.mpr hr⟩), if_pos (by omega), if_neg (by omega)]
    | r + 1 =>
      refine wild ?_ (by omega)
      unfold lk
      rw [if_neg (by omega), if_neg (by rw [hMn]; omega), if_neg (by rw [hMn]; omega), if_neg (by omega)]
/-- what lies there has the balance of what it is made of -/
theorem bal_same {hd cp : Int} {k l : List Int} {ms rs : List (List Int)} (p : k.Perm l) (s : Same ms rs) : bal hd cp k ms = bal hd cp l rs := by
  unfold bal
  rw [lost_perm p, lost_perm s.flat, s.len]
theorem shut_round {hd cp : Int} {l : List Int} {rs : List (List Int)} (h0 : 0 ≤ hd ∧ 0 ≤ cp) (o1 : OkV l) (o2 : OkV rs.flatten) (s : ShutP hd cp l rs) : 0 < bal hd cp l rs := by
  have g1 := lost_ge (in9_big o1)
  have g2 := lost_ge (in9_big o2)
  have s1 := lost_big o1
  have s2 := lost_big o2
  obtain ⟨a, b, c⟩ := s
  unfold bal
  rcases c with ⟨rfl, c⟩ | ⟨c1, c2, c3⟩
  · have : lost ([] : List (List Int)).flatten = 0 := rfl
    rw [this, List.length_nil]
    omega
  · rw [c2] at g1
    rw [c1]
    simp only [List.length_nil] at g1
    rw [c2] at s1
    omega
theorem bal_mirrored {hd cp : Int} {l : List Int} {rs : List (List Int)} (hr : rs.length ≠ 0) (h0 : 0 ≤ hd ∧ 0 ≤ cp) (h1 : hd = 0 ∨ cp = 0) : bal (heOf (cp == 0) (lack (2 * eul hd cp rs) 0)) (caOf (cp == 0) (lack (2 * eul hd cp rs) 0)) (l ++ (l ++ rs.flatten)) [] = 2 * bal hd cp l rs := by
  unfold bal
  rw [lost_app, lost_app]
  have : lost ([] : List (List Int)).flatten = 0 := rfl
  rw [this, List.length_nil]
  unfold heOf caOf lack eul
  by_cases c : cp = 0
  · subst c
    simp
    omega
  · have c' : (cp == 0) = false := by simp [c]
    rw [c']
    simp
    omega
theorem flat_rev : ∀ rs : List (List Int), lost (rs.map List.reverse).flatten = lost rs.flatten
  | [] => rfl
  | r :: rs => by
    rw [List.map_cons, List.flatten_cons, List.flatten_cons, lost_app, lost_app, flat_rev rs, lost_perm (List.reverse_perm r)]
theorem bal_unfolded {hd cp : Int} {l : List Int} {rs : List (List Int)} : bal (heOf true (lack (2 * eul hd cp rs) (rs ++ rs.map List.reverse).length)) (caOf true (lack (2 * eul hd cp rs) (rs ++ rs.map List.reverse).length)) (l ++ l) (rs ++ rs.map List.reverse) = 2 * bal hd cp l rs := by
  unfold bal
  rw [lost_app, List.flatten_append, lost_app, flat_rev]
  unfold heOf caOf lack eul
  simp only [List.length_append, List.length_map, if_true]
  omega
end K14
end

-- M36
section
set_option Elab.async false
set_option linter.all false
set_option maxRecDepth 100000
set_option maxHeartbeats 1000000
namespace K14
open PySem L2 Z
def near : List Int := [1, 2, 2, 2, 3, 3, 4, 5, 6]
def far : List Int := [1, 2, 7, 60, 119, 120]
theorem ok_near : OkV near := by
  intro i hi
  revert i
  decide
theorem ok_far : OkV far := by
  intro i hi
  revert i
  decide
theorem OkV.app {a b : List Int} (x : OkV a) (y : OkV b) : OkV (a ++ b) := fun i hi => (List.mem_append.mp hi).elim (x i) (y i)
/-- what stands at the head of a turn -/
structure Base (h : Hh) (c : Int) : Prop where
  pen : Pen h 0 c
  n3 : h[3]? = some (.lst (zs near))
  f4 : h[4]? = some (.lst (zs far))
theorem Base.len {h : Hh} {c : Int} (b : Base h c) : 4 < h.length := (List.getElem?_eq_some_iff.mp b.f4).1
theorem Base.ev {h h' : Hh} {c c' : Int} (b : Base h c) (e : Ev0 h h') (P : Pen h' 0 c') : Base h' c' := ⟨P, e.get (by decide) b.n3, e.get (by decide) b.f4⟩
theorem b_orders (s : Sl) (h : Hh) (c : Int) (s1 : s[1]? = some (some (.ref 0))) (s2 : s[2]? = some (some (.ref 3))) (s3 : s[3]? = some (some (.ref 4))) (b : Base h c) (hc : c < 80000) :
    ∃ r os h1, ev cfg.G (S 23) (.call 29 (.cons (.var 1) (.cons (.lst (.cons (.var 2) (.cons (.var 2) (.cons (.var 3) (.cons (.bin .add (.var 2) (.var 3)) .nil))))) .nil))) s h = some (.ref r, h1) ∧ h1[r]? = some (.lst (zs os)) ∧ r ≠ 0 ∧ OkV os ∧ os ≠ [] ∧ os.length < 1000000 ∧ Ev0 h h1 ∧ Base h1 (c+1) := by
  have w1 := ev_var (G := cfg.G) (cs := S 23) (h := h) s1
  have w2 := ev_var (G := cfg.G) (cs := S 23) (h := h) s2
  have w3 := ev_var (G := cfg.G) (cs := S 23) (h := h) s3
  have a1 := add_ll (cs := S 23) w2 w3 b.n3 b.f4 (by decide)
  have a2 : ev cfg.G (S 23) (.lst (.cons (.var 2) (.cons (.var 2) (.cons (.var 3) (.cons (.bin .add (.var 2) (.var 3)) .nil))))) s h = some (.ref (h ++ [O.lst (zs (near ++ far))]).length, h ++ [.lst (zs (near ++ far))] ++ [.lst [.ref 3, .ref 3, .ref 4, .ref h.length]]) := by
    rw [ev.eq_5]
    simp only [evs, w2, w3, a1]
    rfl
  have hl := b.len
  have P1 : Pen (h ++ [.lst (zs (near ++ far))] ++ [.lst [.ref 3, .ref 3, .ref 4, .ref h.length]]) 0 c := b.pen.app.app
  have E1 : Ev0 h (h ++ [.lst (zs (near ++ far))] ++ [.lst [.ref 3, .ref 3, .ref 4, .ref h.length]]) := Ev0.app.trans Ev0.app
  have gN : (h ++ [O.lst (zs (near ++ far))] ++ [.lst [.ref 3, .ref 3, .ref 4, .ref h.length]])[h.length]? = some (.lst (zs (near ++ far))) := app_at get_last
  have gL : (h ++ [O.lst (zs (near ++ far))] ++ [O.lst [.ref 3, .ref 3, .ref 4, .ref h.length]])[(h ++ [O.lst (zs (near ++ far))]).length]? = some (.lst [.ref 3, .ref 3, .ref 4, .ref h.length]) := get_last
  have ll : (h ++ [O.lst (zs (near ++ far))] ++ [O.lst [.ref 3, .ref 3, .ref 4, .ref h.length]]).length = h.length + 2 := by simp
  generalize h ++ [O.lst (zs (near ++ far))] ++ [O.lst [.ref 3, .ref 3, .ref 4, .ref h.length]] = k at *
  obtain ⟨x, o, m, d, P2⟩ := t_pick 21 0 (h ++ [O.lst (zs (near ++ far))]).length c [.ref 3, .ref 3, .ref 4, .ref h.length] k P1 gL (by omega) (by simp) (by simp) (fun x hx => by
    simp only [List.mem_cons, List.not_mem_nil, or_false] at hx
    rcases hx with rfl | rfl | rfl | rfl <;> exact decide_eq_true (by omega))
  have E2 : Ev0 h (k.set 0 o) := E1.trans Ev0.set
  have d' : ev cfg.G (S 23) (.call 29 (.cons (.var 1) (.cons (.lst (.cons (.var 2) (.cons (.var 2) (.cons (.var 3) (.cons (.bin .add (.var 2) (.var 3)) .nil))))) .nil))) s h = some (x, k.set 0 o) := ev_callE (by simp only [evs, w1, a2]) d
  simp only [List.mem_cons, List.not_mem_nil, or_false] at m
  rcases m with rfl | rfl | rfl | rfl
  · exact ⟨3, near, _, d', E2.get (by decide) b.n3, by decide, ok_near, by decide, by decide, E2, b.ev E2 P2⟩
  · exact ⟨3, near, _, d', E2.get (by decide) b.n3, by decide, ok_near, by decide, by decide, E2, b.ev E2 P2⟩
  · exact ⟨4, far, _, d', E2.get (by decide) b.f4, by decide, ok_far, by decide, by decide, E2, b.ev E2 P2⟩
  · exact ⟨h.length, near ++ far, _, d', Ev0.set.get (by omega) gN, by omega, ok_near.app ok_far, by decide, by decide, E2, b.ev E2 P2⟩
def hcs : List (Int × Int) := [(0, 0), (0, 0), (0, 0), (1, 0), (0, 1), (0, 2), (2, 0), (0, 3)]
theorem b_hc (s : Sl) (h : Hh) (c : Int) (s1 : s[1]? = some (some (.ref 0))) (b : Base h c) (hc : c < 80000) :
    ∃ hd cp h1, ev cfg.G (S 23) (.call 29 (.cons (.var 1) (.cons (.lst (.cons (.tup (.cons (.con (.int 0)) (.cons (.con (.int 0)) .nil))) (.cons (.tup (.cons (.con (.int 0)) (.cons (.con (.int 0)) .nil))) (.cons (.tup (.cons (.con (.int 0)) (.cons (.con (.int 0)) .nil))) (.cons (.tup (.cons (.con (.int 1)) (.cons (.con (.int 0)) .nil))) (.cons (.tup (.cons (.con (.int 0)) (.cons (.con (.int 1)) .nil))) (.cons (.tup (.cons (.con (.int 0)) (.cons (.con (.int 2)) .nil))) (.cons (.tup (.cons (.con (.int 2)) (.cons (.con (.int 0)) .nil))) (.cons (.tup (.cons (.con (.int 0)) (.cons (.con (.int 3)) .nil))) .nil))))))))) .nil))) s h = some (.tup [.int hd, .int cp], h1) ∧ HC hd cp ∧ Ev0 h h1 ∧ Base h1 (c+1) := by
  have w1 := ev_var (G := cfg.G) (cs := S 23) (h := h) s1
  have a1 := ev_lit (G := cfg.G) (cs := S 23) (es := .cons (.tup (.cons (.con (.int 0)) (.cons (.con (.int 0)) .nil))) (.cons (.tup (.cons (.con (.int 0)) (.cons (.con (.int 0)) .nil))) (.cons (.tup (.cons (.con (.int 0)) (.cons (.con (.int 0)) .nil))) (.cons (.tup (.cons (.con (.int 1)) (.cons (.con (.int 0)) .nil))) (.cons (.tup (.cons (.con (.int 0)) (.cons (.con (.int 1)) .nil))) (.cons (.tup (.cons (.con (.int 0)) (.cons (.con (.int 2)) .nil))) (.cons (.tup (.cons (.con (.int 2)) (.cons (.con (.int 0)) .nil))) (.cons (.tup (.cons (.con (.int 0)) (.cons (.con (.int 3)) .nil))) .nil)))))))) (s := s) (h := h) (xs := hcs.map fun q => .tup [.int q.1, .int q.2]) (by
    simp only [evs, ev.eq_2, ev.eq_4]
    rfl) (by decide)
  obtain ⟨x, o, m, d, P2⟩ := t_pick 21 0 h.length c (hcs.map fun q => .tup [.int q.1, .int q.2]) (h ++ [.lst (hcs.map fun q => .tup [.int q.1, .int q.2])]) b.pen.app get_last (by omega) (by decide) (by decide) (fun x hx => by
    obtain ⟨q, _, rfl⟩ := List.mem_map.mp hx
    rfl)
  obtain ⟨q, hq, rfl⟩ := List.mem_map.mp m
  have E2 : Ev0 h ((h ++ [O.lst (hcs.map fun q => D.tup [.int q.1, .int q.2])]).set 0 o) := Ev0.app.trans Ev0.set
  refine ⟨q.1, q.2, _, ev_callE (by simp only [evs, w1, a1]) d, ?_, E2, b.ev E2 P2⟩
  have hq' : q ∈ [((0 : Int), (0 : Int)), (0, 0), (0, 0), (1, 0), (0, 1), (0, 2), (2, 0), (0, 3)] := hq
  simp only [List.mem_cons, List.not_mem_nil, or_false] at hq'
  unfold HC
  rcases hq' with rfl | rfl | rfl | rfl | rfl | rfl | rfl | rfl <;> simp
end K14
end

-- M37
section
set_option Elab.async false
set_option linter.all false
set_option maxRecDepth 100000
set_option maxHeartbeats 1000000
namespace K14
open PySem L2 Z
theorem shp (x : Str) (h : (PyData.str x).canLay0 = true) : SeqAt.shaped (.str x) = true := by
  simp [SeqAt.shaped, h, PyData.depth]
theorem can_w : (PyData.str "wild").canLay0 = true := by decide +kernel
theorem can_f : (PyData.str "flat").canLay0 = true := by decide +kernel
theorem can_r : (PyData.str "round").canLay0 = true := by decide +kernel
theorem can_k (b : Int) : (PyData.str (kindS b)).canLay0 = true := by
  unfold kindS
  split
  · exact can_w
  · split
    · exact can_f
    · exact can_r
theorem eqP_str {h : Hh} {a b : Str} (ha : (PyData.str a).canLay0 = true) (hb : (PyData.str b).canLay0 = true) : eqP h (.str a) (.str b) = some (decide (a = b)) := by
  rw [eqP_of (x := .str a) (y := .str b) rfl rfl ha hb (by simp [PyData.depth]) (by simp [PyData.depth])]
  simp only [PyData.eqv]
  congr 1
theorem ev_ne_same {cs : CS} {X Y : Ex} {s : Sl} {h h1 h2 : Hh} {b : Int} (hX : ev cfg.G cs X s h = some (.str (kindS b), h1)) (hY : ev cfg.G cs Y s h1 = some (.str (kindS b), h2)) : evT cfg.G cs (.val (.bin .ne X Y)) s h = some (false, h2) := by
  refine evT_val (ev_bin hX hY ?_)
  simp only [prim2, eqP_str (can_k b) (can_k b), decide_true, Bool.not_true]
theorem round_iff {b : Int} : kindS b = "round" ↔ 0 < b := by
  rcases Int.lt_trichotomy b 0 with h | h | h
  · rw [kind_neg h]
    exact ⟨fun e => absurd e (by decide), fun e => by omega⟩
  · subst h
    exact ⟨fun e => absurd e (by decide), fun e => by omega⟩
  · rw [kind_pos h]
    exact ⟨fun _ => h, fun _ => rfl⟩
theorem wild_iff {b : Int} : kindS b = "wild" ↔ b < 0 := by
  rcases Int.lt_trichotomy b 0 with h | h | h
  · rw [kind_neg h]
    exact ⟨fun _ => h, fun _ => rfl⟩
  · subst h
    exact ⟨fun e => absurd e (by decide), fun e => by omega⟩
  · rw [kind_pos h]
    exact ⟨fun e => absurd e (by decide), fun e => by omega⟩
theorem okF_small {hd cp : Int} {k : List Int} {ms : List (List Int)} (h1 : 0 ≤ hd ∧ hd ≤ 60) (h2 : 0 ≤ cp ∧ cp ≤ 60) (h3 : hd = 0 ∨ cp = 0) (o1 : OkV k) (o2 : OkV ms.flatten) (l1 : k.length ≤ 24) (l2 : ms.length ≤ 6) (l3 : ms.flatten.length ≤ 24) : OkF hd cp k ms where
  hd0 := h1.1
  hd1 := h1.2
  cp0 := h2.1
  cp1 := h2.2
  one := by omega
  inn := o1.ord
  rim := fun r hr i hi => o2.ord i (List.mem_flatten.mpr ⟨r, hr, hi⟩)
  pts := by
    have : ∀ ms : List (List Int), (ms.map fun r => max 1 r.length).sum ≤ ms.length + ms.flatten.length := by
      intro ms
      induction ms with
      | nil => simp
      | cons r ms ih =>
        simp only [List.map_cons, List.sum_cons, List.length_cons, List.flatten_cons, List.length_append]
        omega
    have := this ms
    omega
theorem OkV.perm {a b : List Int} (o : OkV b) (p : a.Perm b) : OkV a := fun i hi => o i (p.mem_iff.mp hi)
/-- all that is known of the full of one turn -/
structure Tn (H : Hh) (m : Nat) (hd cp : Int) (l : List Int) (rs : List (List Int)) (k : List Int) (ms : List (List Int)) : Prop where
  at_ : FullAt H m hd cp k ms
  pk : k.Perm l
  pm : Same ms rs
  o1 : OkV l
  o2 : OkV rs.flatten
  l1 : l.length ≤ 4
  l2 : rs.length ≤ 3
  l3 : rs.flatten.length ≤ 12
  hc : HC hd cp
section
variable {H : Hh} {m : Nat} {hd cp : Int} {l : List Int} {rs : List (List Int)} {k : List Int} {ms : List (List Int)}
theorem Tn.app {t : Hh} (T : Tn H m hd cp l rs k ms) : Tn (H ++ t) m hd cp l rs k ms := ⟨T.at_.app, T.pk, T.pm, T.o1, T.o2, T.l1, T.l2, T.l3, T.hc⟩
theorem HC.b (c : HC hd cp) : 0 ≤ hd ∧ hd ≤ 3 ∧ 0 ≤ cp ∧ cp ≤ 3 ∧ (hd = 0 ∨ cp = 0) := by
  unfold HC at c
  omega
theorem Tn.ko (T : Tn H m hd cp l rs k ms) : OkV k := T.o1.perm T.pk
theorem Tn.mo (T : Tn H m hd cp l rs k ms) : OkV ms.flatten := T.o2.perm T.pm.flat
theorem Tn.kl (T : Tn H m hd cp l rs k ms) : k.length ≤ 4 := by rw [T.pk.length_eq]; exact T.l1
theorem Tn.ml (T : Tn H m hd cp l rs k ms) : ms.length ≤ 3 := by rw [T.pm.len]; exact T.l2
theorem Tn.mf (T : Tn H m hd cp l rs k ms) : ms.flatten.length ≤ 12 := by rw [T.pm.flat.length_eq]; exact T.l3
theorem Tn.okF (T : Tn H m hd cp l rs k ms) : OkF hd cp k ms := by
  have b := T.hc.b
  have := T.kl
  have := T.ml
  have := T.mf
  exact okF_small (by omega) (by omega) b.2.2.2.2 T.ko T.mo (by omega) (by omega) (by omega)
theorem Tn.bal (T : Tn H m hd cp l rs k ms) : K14.bal hd cp k ms = K14.bal hd cp l rs := bal_same T.pk T.pm
theorem full_kind {H : Hh} {m : Nat} {hd cp : Int} {k : List Int} {ms : List (List Int)} (q : FullAt H m hd cp k ms) (h1 : 0 ≤ hd ∧ hd ≤ 60) (h2 : 0 ≤ cp ∧ cp ≤ 60) (o1 : OkV k) (o2 : OkV ms.flatten) (l1 : k.length ≤ 24) (l2 : ms.length ≤ 6) (l3 : ms.flatten.length ≤ 24) : (S 23).fn 18 [.ref m] H = some (.str (kindS (K14.bal hd cp k ms)), H) :=
  t_kind 17 m hd cp k ms H q o1.nice o2.nice (by omega) (by omega) (by omega) h1 h2
theorem Tn.kind (T : Tn H m hd cp l rs k ms) : (S 23).fn 18 [.ref m] H = some (.str (kindS (K14.bal hd cp l rs)), H) := by
  have b := T.hc.b
  have := T.kl
  have := T.ml
  have := T.mf
  rw [← T.bal]
  exact full_kind T.at_ (by omega) (by omega) T.ko T.mo (by omega) (by omega) (by omega)
theorem Tn.balance (T : Tn H m hd cp l rs k ms) : ∃ d, (S 23).fn 17 [.ref m] H = some (d, H) ∧ Fr d (K14.bal hd cp l rs) := by
  have b := T.hc.b
  have := T.kl
  have := T.ml
  have := T.mf
  have e := t_balance 18 m hd cp k ms H T.at_ T.ko.nice T.mo.nice (by omega) (by omega) (by omega) (by omega) (by omega)
  have hb : 2 * (2 - 2 * hd - cp - (ms.length : Int)) * 14280 - (2 * lost k + lost ms.flatten) = K14.bal hd cp l rs := T.bal
  rw [hb] at e
  exact e
theorem Tn.mirrored (T : Tn H m hd cp l rs k ms) (hr : rs ≠ []) : ∃ o, (S 23).fn 21 [.ref m] H = some (.ref H.length, H ++ [o]) ∧ (S 23).fn 18 [.ref H.length] (H ++ [o]) = some (.str (kindS (K14.bal hd cp l rs)), H ++ [o]) := by
  have b := T.hc.b
  have a1 := T.kl
  have a2 := T.ml
  have a3 := T.mf
  have len := T.pm.len
  have hr0 : rs.length ≠ 0 := fun e => hr (List.length_eq_zero_iff.mp e)
  have hm : ms ≠ [] := fun e => by
    subst e
    simp only [List.length_nil] at len
    omega
  have hm0 : ms.length ≠ 0 := by omega
  have o1 : OkV (k ++ (k ++ ms.flatten)) := T.ko.app (T.ko.app T.mo)
  have o2 : OkV ([] : List (List Int)).flatten := fun i hi => absurd hi (by simp)
  have lk : (k ++ (k ++ ms.flatten)).length ≤ 24 := by
    simp only [List.length_append]
    omega
  have hb : (0 ≤ heOf (cp == 0) (lack (2 * eul hd cp ms) 0) ∧ heOf (cp == 0) (lack (2 * eul hd cp ms) 0) ≤ 60) ∧ (0 ≤ caOf (cp == 0) (lack (2 * eul hd cp ms) 0) ∧ caOf (cp == 0) (lack (2 * eul hd cp ms) 0) ≤ 60) ∧ (heOf (cp == 0) (lack (2 * eul hd cp ms) 0) = 0 ∨ caOf (cp == 0) (lack (2 * eul hd cp ms) 0) = 0) := by
    unfold heOf caOf lack eul
    by_cases c : cp = 0
    · subst c
      simp
      omega
    · have c' : (cp == 0) = false := by simp [c]
      rw [c']
      simp
      omega
  have o := okF_small (k := k ++ (k ++ ms.flatten)) (ms := []) hb.1 hb.2.1 hb.2.2 o1 o2 lk (by simp) (by simp)
  obtain ⟨k', ms', p1, p2, c1⟩ := t_mirrored 15 m hd cp k ms H T.at_ (by omega) (by omega) (by omega) hm (by omega) (by omega) o
  refine ⟨_, c1, ?_⟩
  have fl := p2.flat
  have fl0 : ms'.flatten.length = 0 := by rw [fl.length_eq]; rfl
  have ml0 : ms'.length = 0 := p2.len
  have e := full_kind (get_last (h := H) (o := fullO (heOf (cp == 0) (lack (2 * eul hd cp ms) 0)) (caOf (cp == 0) (lack (2 * eul hd cp ms) 0)) k' ms')) hb.1 hb.2.1 (o1.perm p1) (o2.perm fl) (by rw [p1.length_eq]; exact lk) (by omega) (by omega)
  rw [bal_same p1 p2, bal_mirrored hm0 (by omega) b.2.2.2.2, kind_two, T.bal] at e
  exact e
theorem Tn.unfolded (T : Tn H m hd cp l rs k ms) (hr : 0 < cp) : ∃ o, (S 23).fn 22 [.ref m] H = some (.ref H.length, H ++ [o]) ∧ (S 23).fn 18 [.ref H.length] (H ++ [o]) = some (.str (kindS (K14.bal hd cp l rs)), H ++ [o]) := by
  have b := T.hc.b
  have a1 := T.kl
  have a2 := T.ml
  have a3 := T.mf
  have o1 : OkV (k ++ k) := T.ko.app T.ko
  have fr : ∀ ms : List (List Int), (ms.map List.reverse).flatten.Perm ms.flatten := by
    intro ms
    induction ms with
    | nil => exact List.Perm.refl _
    | cons r ms ih =>
      rw [List.map_cons, List.flatten_cons, List.flatten_cons]
      exact (List.reverse_perm r).append ih
  have o2 : OkV (ms ++ ms.map List.reverse).flatten := by
    rw [List.flatten_append]
    exact T.mo.app (T.mo.perm (fr ms))
  have lk : (k ++ k).length ≤ 24 := by
    simp only [List.length_append]
    omega
  have lm : (ms ++ ms.map List.reverse).length ≤ 6 := by
    simp only [List.length_append, List.length_map]
    omega
  have lf : (ms ++ ms.map List.reverse).flatten.length ≤ 24 := by
    rw [List.flatten_append, List.length_append, (fr ms).length_eq]
    omega
  have hd0 : hd = 0 := by omega
  have hb : (0 ≤ heOf true (lack (2 * eul hd cp ms) (ms ++ ms.map List.reverse).length) ∧ heOf true (lack (2 * eul hd cp ms) (ms ++ ms.map List.reverse).length) ≤ 60) ∧ (0 ≤ caOf true (lack (2 * eul hd cp ms) (ms ++ ms.map List.reverse).length) ∧ caOf true (lack (2 * eul hd cp ms) (ms ++ ms.map List.reverse).length) ≤ 60) ∧ (heOf true (lack (2 * eul hd cp ms) (ms ++ ms.map List.reverse).length) = 0 ∨ caOf true (lack (2 * eul hd cp ms) (ms ++ ms.map List.reverse).length) = 0) := by
    refine ⟨?_, ⟨Int.le_refl _, (by decide : (0 : Int) ≤ 60)⟩, .inr rfl⟩
    unfold heOf lack eul
    simp only [List.length_append, List.length_map, if_true]
    omega
  have o := okF_small (k := k ++ k) (ms := ms ++ ms.map List.reverse) hb.1 hb.2.1 hb.2.2 o1 o2 lk lm lf
  obtain ⟨k', ms', p1, p2, c1⟩ := t_unfolded 15 m hd cp k ms H T.at_ (by omega) (by omega) (by omega) (by omega) o
  refine ⟨_, c1, ?_⟩
  have e := full_kind (get_last (h := H) (o := fullO (heOf true (lack (2 * eul hd cp ms) (ms ++ ms.map List.reverse).length)) (caOf true (lack (2 * eul hd cp ms) (ms ++ ms.map List.reverse).length)) k' ms')) hb.1 hb.2.1 (o1.perm p1) (o2.perm p2.flat) (by rw [p1.length_eq]; exact lk) (by rw [p2.len]; exact lm) (by rw [p2.flat.length_eq]; exact lf)
  rw [bal_same p1 p2, bal_unfolded, kind_two, T.bal] at e
  exact e
theorem Tn.shut (T : Tn H m hd cp l rs k ms) : ∃ b, (S 23).fn 19 [.ref m] H = some (.bl b, H) ∧ (b = true → 0 < K14.bal hd cp l rs) := by
  have b := T.hc.b
  obtain ⟨v, e1, e2⟩ := t_shut 15 m hd cp k ms H T.at_ T.okF
  refine ⟨v, e1, fun hv => ?_⟩
  rw [← T.bal]
  exact shut_round (by omega) T.ko T.mo (e2 hv)
end
end K14
end

-- M38
section
set_option Elab.async false
set_option linter.all false
set_option maxRecDepth 100000
set_option maxHeartbeats 1000000
namespace K14
open PySem L2 Z
theorem eT_or {G : GEnv} {cs : CS} {a b : Ts} {s : Sl} {h h1 : Hh} (e1 : evT G cs a s h = some (false, h1)) {r : Option (Bool × Hh)} (e2 : evT G cs b s h1 = r) : evT G cs (.or a b) s h = r := by
  rw [evT.eq_4, e1]
  exact e2
theorem eT_andF {G : GEnv} {cs : CS} {a b : Ts} {s : Sl} {h h1 : Hh} (e1 : evT G cs a s h = some (false, h1)) : evT G cs (.and a b) s h = some (false, h1) := by
  rw [evT.eq_3, e1]
theorem eT_andT {G : GEnv} {cs : CS} {a b : Ts} {s : Sl} {h h1 : Hh} (e1 : evT G cs a s h = some (true, h1)) {r : Option (Bool × Hh)} (e2 : evT G cs b s h1 = r) : evT G cs (.and a b) s h = r := by
  rw [evT.eq_3, e1]
  exact e2
theorem eT_and {G : GEnv} {cs : CS} {a b : Ts} {s : Sl} {h h1 : Hh} {x : Bool} (e1 : evT G cs a s h = some (x, h1)) (e2 : x = true → evT G cs b s h1 = some (false, h1)) : evT G cs (.and a b) s h = some (false, h1) := by
  cases x with
  | false => exact eT_andF e1
  | true => exact eT_andT e1 (e2 rfl)
theorem ev_int {G : GEnv} {cs : CS} {i : Int} {s : Sl} {h : Hh} : ev G cs (.con (.int i)) s h = some (.int i, h) := by rw [ev.eq_2]
theorem ev_str {G : GEnv} {cs : CS} {i : Str} {s : Sl} {h : Hh} : ev G cs (.con (.str i)) s h = some (.str i, h) := by rw [ev.eq_2]
section
variable {s : Sl} {H : Hh} {B p q : Int}
theorem ev_p (s14 : s[14]? = some (some (.tup [.int p, .int q]))) {cs : CS} : ev cfg.G cs (.bin .ix (.var 14) (.con (.int 0))) s H = some (.int p, H) := ev_bin (ev_var s14) ev_int rfl
theorem ev_q (s14 : s[14]? = some (some (.tup [.int p, .int q]))) {cs : CS} : ev cfg.G cs (.bin .ix (.var 14) (.con (.int 1))) s H = some (.int q, H) := ev_bin (ev_var s14) ev_int rfl
theorem p_sign (q0 : 0 < q) (e : p * 14280 = B * q) : (0 < p ↔ 0 < B) ∧ (p < 0 ↔ B < 0) := by
  rcases Int.lt_trichotomy B 0 with h | h | h
  · have : B * q < 0 := Int.mul_neg_of_neg_of_pos h q0
    omega
  · subst h
    rw [Int.zero_mul] at e
    omega
  · have : 0 < B * q := Int.mul_pos h q0
    omega
theorem c_kindix (s14 : s[14]? = some (some (.tup [.int p, .int q]))) (q0 : 0 < q) (e : p * 14280 = B * q) {cs : CS} : ev cfg.G cs (.bin .ix (.lst (.cons (.con (.str "wild")) (.cons (.con (.str "flat")) (.cons (.con (.str "round")) .nil)))) (.bin .sub (.bin .add (.con (.int 1)) (.app .toInt (.cons (.bin .gt (.bin .ix (.var 14) (.con (.int 0))) (.con (.int 0))) .nil))) (.app .toInt (.cons (.bin .lt (.bin .ix (.var 14) (.con (.int 0))) (.con (.int 0))) .nil)))) s H = some (.str (kindS B), H ++ [.lst [.str "wild", .str "flat", .str "round"]]) := by
  obtain ⟨e1, e2⟩ := p_sign q0 e
  have a0 := ev_lit (G := cfg.G) (cs := cs) (es := .cons (.con (.str "wild")) (.cons (.con (.str "flat")) (.cons (.con (.str "round")) .nil))) (s := s) (h := H) (xs := [.str "wild", .str "flat", .str "round"]) (by simp only [evs, ev.eq_2]) (by decide)
  generalize hk : H ++ [O.lst [.str "wild", .str "flat", .str "round"]] = k at *
  have g : k[H.length]? = some (.lst [.str "wild", .str "flat", .str "round"]) := by rw [← hk]; exact get_last
  have a1 : ev cfg.G cs (.app .toInt (.cons (.bin .gt (.bin .ix (.var 14) (.con (.int 0))) (.con (.int 0))) .nil)) s k = some (.int (if 0 < B then 1 else 0), k) := by
    refine ev_app1 (ev_bin (ev_p s14) ev_int rfl) ?_
    simp only [prim1, decide_eq_true_eq, e1]
  have a2 : ev cfg.G cs (.app .toInt (.cons (.bin .lt (.bin .ix (.var 14) (.con (.int 0))) (.con (.int 0))) .nil)) s k = some (.int (if B < 0 then 1 else 0), k) := by
    refine ev_app1 (ev_bin (ev_p s14) ev_int rfl) ?_
    simp only [prim1, decide_eq_true_eq, e2]
  refine ev_bin a0 (ev_bin (r := some (.int (1 + (if 0 < B then 1 else 0) - (if B < 0 then 1 else 0)), k)) (ev_bin (r := some (.int (1 + (if 0 < B then 1 else 0)), k)) ev_int a1 rfl) a2 rfl) ?_
  simp only [prim2, ixD, g]
  rcases Int.lt_trichotomy B 0 with h | h | h
  · have h' : ¬ 0 < B := by omega
    rw [if_neg h', if_pos h, kind_neg h]
    rfl
  · subst h
    rfl
  · have h' : ¬ B < 0 := by omega
    rw [if_neg h', if_pos h, kind_pos h]
    rfl
theorem c_round (s13 : s[13]? = some (some (.str (kindS B)))) {cs : CS} : evT cfg.G cs (.val (.bin .eq (.var 13) (.con (.str "round")))) s H = some (decide (0 < B), H) := by
  refine evT_val (ev_bin (ev_var s13) ev_str ?_)
  have : decide (kindS B = "round") = decide (0 < B) := by
    rw [Bool.eq_iff_iff, decide_eq_true_eq, decide_eq_true_eq]
    exact round_iff
  simp only [prim2, eqP_str (can_k B) can_r, this]
theorem c_nround (s13 : s[13]? = some (some (.str (kindS B)))) {cs : CS} : evT cfg.G cs (.val (.bin .ne (.var 13) (.con (.str "round")))) s H = some (!decide (0 < B), H) := by
  refine evT_val (ev_bin (ev_var s13) ev_str ?_)
  have : decide (kindS B = "round") = decide (0 < B) := by
    rw [Bool.eq_iff_iff, decide_eq_true_eq, decide_eq_true_eq]
    exact round_iff
  simp only [prim2, eqP_str (can_k B) can_r, this]
theorem c_wild (s13 : s[13]? = some (some (.str (kindS B)))) {cs : CS} : evT cfg.G cs (.val (.bin .eq (.var 13) (.con (.str "wild")))) s H = some (decide (B < 0), H) := by
  refine evT_val (ev_bin (ev_var s13) ev_str ?_)
  have : decide (kindS B = "wild") = decide (B < 0) := by
    rw [Bool.eq_iff_iff, decide_eq_true_eq, decide_eq_true_eq]
    exact wild_iff
  simp only [prim2, eqP_str (can_k B) can_w, this]
theorem c_8a (s13 : s[13]? = some (some (.str (kindS B)))) (s14 : s[14]? = some (some (.tup [.int p, .int q]))) (q0 : 0 < q) (qm : q ≤ 14280) (pm : p.natAbs ≤ B.natAbs) (e : p * 14280 = B * q) (b0 : 0 < B → 119 ≤ B) (b1 : B ≤ 57120) (b2 : B.natAbs < 2 ^ 40) {cs : CS} :
    evT cfg.G cs (.and (.val (.bin .eq (.var 13) (.con (.str "round")))) (.or (.val (.bin .gt (.bin .ix (.var 14) (.con (.int 0))) (.bin .mul (.con (.int 4)) (.bin .ix (.var 14) (.con (.int 1)))))) (.val (.bin .lt (.bin .mul (.con (.int 120)) (.bin .ix (.var 14) (.con (.int 0)))) (.bin .ix (.var 14) (.con (.int 1))))))) s H = some (false, H) := by
  refine eT_and (c_round s13) (fun hb => ?_)
  have hb := of_decide_eq_true hb
  have m1 : mulOk 4 q = true := mulOk_of (by decide) (by omega)
  have m2 : mulOk 120 p = true := mulOk_of (by decide) (by omega)
  have h1 : B * q ≤ 57120 * q := Int.mul_le_mul_of_nonneg_right b1 (by omega)
  have h2 : 119 * q ≤ B * q := Int.mul_le_mul_of_nonneg_right (b0 hb) (by omega)
  have k1 : ev cfg.G cs (.bin .mul (.con (.int 4)) (.bin .ix (.var 14) (.con (.int 1)))) s H = some (.int (4 * q), H) := ev_bin ev_int (ev_q s14) (by simp only [prim2, m1, if_true])
  have k2 : ev cfg.G cs (.bin .mul (.con (.int 120)) (.bin .ix (.var 14) (.con (.int 0)))) s H = some (.int (120 * p), H) := ev_bin ev_int (ev_p s14) (by simp only [prim2, m2, if_true])
  refine eT_or (evT_val (ev_bin (ev_p s14) k1 ?_)) (evT_val (ev_bin k2 (ev_q s14) ?_))
  · simp only [prim2]
    rw [decide_eq_false (by omega)]
  · simp only [prim2]
    rw [decide_eq_false (by omega)]
theorem c_9 (s13 : s[13]? = some (some (.str (kindS B)))) (s14 : s[14]? = some (some (.tup [.int p, .int q]))) (q0 : 0 < q) (pm : p.natAbs ≤ B.natAbs) (e : p * 14280 = B * q) (b0 : B < 0 → B ≤ -340) (b2 : B.natAbs < 2 ^ 40) {cs : CS} :
    evT cfg.G cs (.and (.val (.bin .eq (.var 13) (.con (.str "wild")))) (.val (.bin .gt (.bin .mul (.bin .ix (.var 14) (.con (.int 0))) (.con (.int 42))) (.bin .sub (.con (.int 0)) (.bin .ix (.var 14) (.con (.int 1))))))) s H = some (false, H) := by
  refine eT_and (c_wild s13) (fun hb => ?_)
  have hb := of_decide_eq_true hb
  have m2 : mulOk p 42 = true := mulOk_of (by omega) (by decide)
  have h1 : B * q ≤ -340 * q := Int.mul_le_mul_of_nonneg_right (b0 hb) (by omega)
  have k1 : ev cfg.G cs (.bin .mul (.bin .ix (.var 14) (.con (.int 0))) (.con (.int 42))) s H = some (.int (p * 42), H) := ev_bin (ev_p s14) ev_int (by simp only [prim2, m2, if_true])
  have k2 : ev cfg.G cs (.bin .sub (.con (.int 0)) (.bin .ix (.var 14) (.con (.int 1)))) s H = some (.int (0 - q), H) := ev_bin ev_int (ev_q s14) rfl
  refine evT_val (ev_bin k1 k2 ?_)
  simp only [prim2]
  rw [decide_eq_false (by omega)]
end
end K14
end

-- M39
section
set_option Elab.async false
set_option linter.all false
set_option maxRecDepth 100000
set_option maxHeartbeats 2000000
namespace K14
open PySem L2 Z
theorem LV.ll {h : Hh} {lo n : Nat} {xs : List D} {ls : List (List Int)} (q : LV h lo xs ls) (e : h[n]? = some (.lst xs)) : LL h n ls := by
  have : ∃ ns : List Nat, xs = ns.map D.ref ∧ LsAt h ns ls := by
    clear e
    induction q with
    | nil => exact ⟨[], rfl, .nil⟩
    | cons a b _ ih =>
      obtain ⟨ns, e1, e2⟩ := ih
      exact ⟨_ :: ns, by rw [e1]; rfl, .cons b e2⟩
  obtain ⟨ns, rfl, h2⟩ := this
  exact ⟨ns, e, h2⟩
theorem flat_le : ∀ {rs : List (List Int)} {m : Nat}, (∀ r ∈ rs, r.length ≤ m) → rs.flatten.length ≤ m * rs.length
  | [], m, _ => by simp
  | r :: rs, m, h => by
    have h1 := h r List.mem_cons_self
    have h2 := flat_le (rs := rs) fun q hq => h q (List.mem_cons_of_mem _ hq)
    rw [List.flatten_cons, List.length_append, List.length_cons, Nat.mul_add]
    omega
abbrev L20 (x0 x4 x5 x6 x7 x8 x9 x10 x11 x12 x13 x14 x15 x16 x17 x18 x19 : Option D) : Sl := [x0, some (.ref 0), some (.ref 3), some (.ref 4), x4, x5, x6, x7, x8, x9, x10, x11, x12, x13, x14, x15, x16, x17, x18, x19]
theorem ex_tp2 {G : GEnv} {cs : CS} {i j : Nat} {X : Ex} {s : Sl} {h h1 : Hh} {a b : D} (e : ev G cs X s h = some (.tup [a, b], h1)) : ex G cs (.asg (.tp (.cons (.nm i) (.cons (.nm j) .nil))) X) s h = some (.nx ((s.set i (some a)).set j (some b)) h1) := by
  simp only [ex, e, st, sts]
abbrev irBody : Stms := match ir33 with
  | .cons _ (.cons _ (.cons (.fo _ _ b) _)) => b
  | _ => .nil
theorem bel_fr {n : Nat} {d : D} {B : Int} (f : Fr d B) : ∃ p q : Int, d = .tup [.int p, .int q] ∧ 0 < q ∧ p * 14280 = B * q ∧ q ≤ 14280 ∧ p.natAbs ≤ B.natAbs := by
  obtain ⟨p, q, e, q0, g, h⟩ := f
  obtain ⟨h1, h2⟩ := Fr.den q0 g h
  exact ⟨p, q, e, q0, h, h1, h2⟩
theorem body_ok (x0 x4 x5 x6 x7 x8 x9 x10 x11 x12 x13 x14 x15 x16 x17 x18 x19 : Option D) (h : Hh) (c : Int) (b : Base h c) (c0 : 0 ≤ c) (hc : c < 50000) :
    ∃ y5 y6 y7 y8 y9 y10 y11 y12 y13 y14 h', exs cfg.G (S 23) irBody (L20 x0 x4 x5 x6 x7 x8 x9 x10 x11 x12 x13 x14 x15 x16 x17 x18 x19) h = some (.nx (L20 x0 x4 y5 y6 y7 y8 y9 y10 y11 y12 y13 y14 x15 x16 x17 x18 x19) h') ∧ Base h' (c + 27) := by
  unfold irBody ir33
  simp only []
  obtain ⟨r, os, h1, e1, g1, r0, ok, on, ol, E1, B1⟩ := b_orders (L20 x0 x4 x5 x6 x7 x8 x9 x10 x11 x12 x13 x14 x15 x16 x17 x18 x19) h c rfl rfl rfl b (by omega)
  obtain ⟨hd, cp, h2, e2, HCc, E2, B2⟩ := b_hc (L20 x0 x4 (some (.ref r)) x6 x7 x8 x9 x10 x11 x12 x13 x14 x15 x16 x17 x18 x19) h1 (c+1) rfl B1 (by omega)
  have g2 := E2.get r0 g1
  obtain ⟨l, h3, e3, g3, l3, ll3, E3, P3, len3⟩ := ev_inner (n := 21) (s := L20 x0 x4 (some (.ref r)) (some (.int hd)) (some (.int cp)) x8 x9 x10 x11 x12 x13 x14 x15 x16 x17 x18 x19) (h := h2) (j := 9) (r := r) (os := os) (c := c+1+1) rfl rfl (by decide) (by decide) (by simp) B2.pen g2 r0 on ol (by omega) (by omega) (by have := B2.len; omega)
  have B3 := B2.ev E3 P3
  have g3r := E3.get r0 g2
  obtain ⟨xs, rs, h4, dn, e4, ldn, gdn, lv, l4, ll4, E4, P4⟩ := ev_rings (n := 21) (s := L20 x0 x4 (some (.ref r)) (some (.int hd)) (some (.int cp)) (some (.ref h2.length)) x9 x10 x11 x12 x13 x14 x15 x16 x17 x18 x19) (h := h3) (r := r) (os := os) (c := c+1+1+5) rfl rfl (by simp) P3 g3r r0 on ol (by omega) (by omega) (by have := B3.len; omega)
  have B4 := B3.ev E4 P4
  have l2len := B2.len
  have g4 : h4[h2.length]? = some (.lst (zs l)) := E4.get (by omega) g3
  have o1 : OkV l := ok.sub l3
  have o2 : OkV rs.flatten := fun i hi => by
    obtain ⟨q, hq, hi⟩ := List.mem_flatten.mp hi
    exact ok i ((l4 q hq).1 i hi)
  have lf := flat_le (rs := rs) (m := 4) fun q hq => (l4 q hq).2
  have lf12 : rs.flatten.length ≤ 12 := by omega
  have hb := HCc.b
  have oF : OkF hd cp l rs := okF_small (by omega) (by omega) hb.2.2.2.2 o1 o2 (by omega) (by omega) (by omega)
  have s1 : SeqV h4 (.ref h2.length) (zs l) := .inr ⟨_, rfl, g4⟩
  have s2 : SeqV h4 (.ref dn) xs := .inr ⟨_, rfl, gdn⟩
  have ee5 : evs cfg.G (S 23) (.cons (.var 6) (.cons (.var 7) (.cons (.var 8) (.cons (.var 10) .nil)))) (L20 x0 x4 (some (.ref r)) (some (.int hd)) (some (.int cp)) (some (.ref h2.length)) x9 (some (.ref dn)) x11 x12 x13 x14 x15 x16 x17 x18 x19) h4 = some ([.int hd, .int cp, .ref h2.length, .ref dn], h4) := by
    simp only [evs, ev.eq_1]
    rfl
  obtain ⟨k, ms, pk, pm, e5⟩ := ev_new (n := 17) ee5 s1 s2 lv.pwv oF
  have T : Tn (h4 ++ [fullO hd cp k ms]) h4.length hd cp l rs k ms := ⟨get_last, pk, pm, o1, o2, ll3, ll4, lf12, HCc⟩
  have B5 := B4.ev (h' := h4 ++ [fullO hd cp k ms]) Ev0.app P4.app
  have s1' : SeqV (h4 ++ [fullO hd cp k ms]) (.ref h2.length) (zs l) := s1.app
  have s2' : SeqV (h4 ++ [fullO hd cp k ms]) (.ref dn) xs := s2.app
  have lv' := lv.app (t := [fullO hd cp k ms])
  have gdn' : (h4 ++ [fullO hd cp k ms])[dn]? = some (.lst xs) := app_at gdn
  generalize h4 ++ [fullO hd cp k ms] = h5 at *
  obtain ⟨plain1, plain2, plain3, plain4⟩ := law_plain hd cp l rs HCc o1 o2
  have ek := T.kind
  obtain ⟨d, eb, fr⟩ := T.balance
  obtain ⟨p, q, rfl, q0, pq, qm, pm'⟩ := bel_fr (n := 0) fr
  have b40 : (K14.bal hd cp l rs).natAbs < 2 ^ 40 := by
    have g1 := lost_b o1.nice
    have g2 := lost_b o2.nice
    unfold K14.bal
    omega
  generalize hB : K14.bal hd cp l rs = B at *
  have e6 : ev cfg.G (S 23) (.tup (.cons (.call 18 (.cons (.var 12) .nil)) (.cons (.call 17 (.cons (.var 12) .nil)) .nil))) (L20 x0 x4 (some (.ref r)) (some (.int hd)) (some (.int cp)) (some (.ref h2.length)) x9 (some (.ref dn)) x11 (some (.ref h4.length)) x13 x14 x15 x16 x17 x18 x19) h5 = some (.tup [.str (kindS B), .tup [.int p, .int q]], h5) := by
    have w12 := ev_var (G := cfg.G) (cs := S 23) (k := 12) (s := L20 x0 x4 (some (.ref r)) (some (.int hd)) (some (.int cp)) (some (.ref h2.length)) x9 (some (.ref dn)) x11 (some (.ref h4.length)) x13 x14 x15 x16 x17 x18 x19) (h := h5) rfl
    rw [ev.eq_4]
    simp only [evs, ev_call1 w12 ek, ev_call1 w12 eb]
    rfl
  generalize hs : L20 x0 x4 (some (.ref r)) (some (.int hd)) (some (.int cp)) (some (.ref h2.length)) x9 (some (.ref dn)) x11 (some (.ref h4.length)) (some (.str (kindS B))) (some (.tup [.int p, .int q])) x15 x16 x17 x18 x19 = s
  have t6 : s[6]? = some (some (.int hd)) := by rw [← hs]; rfl
  have t7 : s[7]? = some (some (.int cp)) := by rw [← hs]; rfl
  have t8 : s[8]? = some (some (.ref h2.length)) := by rw [← hs]; rfl
  have t10 : s[10]? = some (some (.ref dn)) := by rw [← hs]; rfl
  have t12 : s[12]? = some (some (.ref h4.length)) := by rw [← hs]; rfl
  have t13 : s[13]? = some (some (.str (kindS B))) := by rw [← hs]; rfl
  have t14 : s[14]? = some (some (.tup [.int p, .int q])) := by rw [← hs]; rfl
  have k7 : evT cfg.G (S 23) (.or (.val (.bin .ne (.var 13) (.call 32 (.cons (.var 6) (.cons (.var 7) (.cons (.var 8) (.cons (.var 10) .nil))))))) (.val (.bin .ne (.var 13) (.bin .ix (.lst (.cons (.con (.str "wild")) (.cons (.con (.str "flat")) (.cons (.con (.str "round")) .nil)))) (.bin .sub (.bin .add (.con (.int 1)) (.app .toInt (.cons (.bin .gt (.bin .ix (.var 14) (.con (.int 0))) (.con (.int 0))) .nil))) (.app .toInt (.cons (.bin .lt (.bin .ix (.var 14) (.con (.int 0))) (.con (.int 0))) .nil))))))) s h5 = some (false, h5 ++ [.lst [.str "wild", .str "flat", .str "round"]]) := by
    have lkk := t_lawkind 21 hd cp (.ref h2.length) (.ref dn) l xs rs h5 s1' s2' lv'.pwv (by omega) (by omega) (by omega) (fun r hr => by have := (l4 r hr).2; omega)
    rw [← plain1] at lkk
    have c32 : ev cfg.G (S 23) (.call 32 (.cons (.var 6) (.cons (.var 7) (.cons (.var 8) (.cons (.var 10) .nil))))) s h5 = some (.str (kindS B), h5) := ev_callE (by simp only [evs, ev_var t6, ev_var t7, ev_var t8, ev_var t10]) lkk
    exact eT_or (ev_ne_same (ev_var t13) c32) (ev_ne_same (ev_var t13) (c_kindix t14 q0 pq))
  have T6 := T.app (t := [.lst [.str "wild", .str "flat", .str "round"]])
  have B6 := B5.ev (h' := h5 ++ [.lst [.str "wild", .str "flat", .str "round"]]) Ev0.app B5.pen.app
  have ll6 : LL (h5 ++ [.lst [.str "wild", .str "flat", .str "round"]]) dn rs := (lv'.ll gdn').app
  generalize h5 ++ [O.lst [.str "wild", .str "flat", .str "round"]] = h6 at *
  obtain ⟨v, es, sv⟩ := T6.shut
  have k8 : evT cfg.G (S 23) (.or (.and (.val (.bin .eq (.var 13) (.con (.str "round")))) (.or (.val (.bin .gt (.bin .ix (.var 14) (.con (.int 0))) (.bin .mul (.con (.int 4)) (.bin .ix (.var 14) (.con (.int 1)))))) (.val (.bin .lt (.bin .mul (.con (.int 120)) (.bin .ix (.var 14) (.con (.int 0)))) (.bin .ix (.var 14) (.con (.int 1))))))) (.and (.val (.call 19 (.cons (.var 12) .nil))) (.val (.bin .ne (.var 13) (.con (.str "round")))))) s h6 = some (false, h6) := by
    refine eT_or (c_8a t13 t14 q0 qm pm' pq plain2 plain4 b40) (eT_and (x := v) (evT_val (ev_call1 (ev_var t12) es)) (fun hv => ?_))
    rw [c_nround t13]
    have hp := sv hv
    rw [hB] at hp
    rw [decide_eq_true hp]
    rfl
  have k9 := c_9 (H := h6) t13 t14 q0 pm' pq plain3 b40 (cs := S 23)
  have k10 : ∃ h7, evT cfg.G (S 23) (.or (.and (.val (.bin .ne (.var 10) (.lst .nil))) (.val (.bin .ne (.call 18 (.cons (.call 21 (.cons (.var 12) .nil)) .nil)) (.var 13)))) (.and (.val (.bin .gt (.var 7) (.con (.int 0)))) (.val (.bin .ne (.call 18 (.cons (.call 22 (.cons (.var 12) .nil)) .nil)) (.var 13))))) s h6 = some (false, h7) ∧ Ev0 h6 h7 ∧ Pen h7 0 (c + 27) := by
    have P6 : Pen h6 0 (c + 27) := B6.pen.le (by omega)
    have n1 : evT cfg.G (S 23) (.val (.bin .ne (.var 10) (.lst .nil))) s h6 = some (!decide (rs = []), h6 ++ [.lst []]) := by
      refine evT_val (ev_bin (ev_var t10) ev_nl ?_)
      have e2 := eqP_ll (ll6.app (t := [.lst []])) (ll_nil (get_last (h := h6) (o := .lst [])))
      simp only [prim2, e2]
    have first : ∃ t, evT cfg.G (S 23) (.and (.val (.bin .ne (.var 10) (.lst .nil))) (.val (.bin .ne (.call 18 (.cons (.call 21 (.cons (.var 12) .nil)) .nil)) (.var 13)))) s h6 = some (false, h6 ++ t) := by
      by_cases hr : rs = []
      · rw [decide_eq_true hr] at n1
        exact ⟨_, eT_andF n1⟩
      · rw [decide_eq_false hr] at n1
        obtain ⟨o, f1, f2⟩ := (T6.app (t := [.lst []])).mirrored hr
        rw [hB] at f2
        refine ⟨[.lst []] ++ [o], ?_⟩
        rw [← List.append_assoc]
        exact eT_andT n1 (ev_ne_same (ev_call1 (ev_call1 (ev_var t12) f1) f2) (ev_var t13))
    obtain ⟨t, first⟩ := first
    have n2 : evT cfg.G (S 23) (.val (.bin .gt (.var 7) (.con (.int 0)))) s (h6 ++ t) = some (decide (0 < cp), h6 ++ t) := evT_val (ev_bin (ev_var t7) ev_int rfl)
    by_cases hcp : 0 < cp
    · rw [decide_eq_true hcp] at n2
      obtain ⟨o, f1, f2⟩ := (T6.app (t := t)).unfolded hcp
      rw [hB] at f2
      exact ⟨_, eT_or first (eT_andT n2 (ev_ne_same (ev_call1 (ev_call1 (ev_var t12) f1) f2) (ev_var t13))), Ev0.app.trans Ev0.app, P6.app.app⟩
    · rw [decide_eq_false hcp] at n2
      exact ⟨_, eT_or first (eT_andF n2), Ev0.app, P6.app⟩
  obtain ⟨h7, k10, E7, P7⟩ := k10
  refine ⟨some (.ref r), some (.int hd), some (.int cp), some (.ref h2.length), x9, some (.ref dn), x11, some (.ref h4.length), some (.str (kindS B)), some (.tup [.int p, .int q]), h7, ?_, B6.ev E7 P7⟩
  have e2' := ex_tp2 (i := 6) (j := 7) e2
  have e6' := ex_tp2 (i := 13) (j := 14) e6
  refine exs_nx (ex_asg (i := 5) e1) (exs_nx (s2 := L20 x0 x4 (some (.ref r)) (some (.int hd)) (some (.int cp)) x8 x9 x10 x11 x12 x13 x14 x15 x16 x17 x18 x19) (h2 := h2) e2' (exs_nx (ex_asg (i := 8) e3) (exs_nx (ex_asg (i := 10) e4) (exs_nx (ex_asg (i := 12) e5) (exs_nx (s2 := s) (h2 := h5) ?_ (exs_nx (ex_ite k7 (by rfl)) (exs_nx (ex_ite k8 (by rfl)) (exs_nx (ex_ite k9 (by rfl)) (exs_nx (ex_ite k10 (by rfl)) ?_)))))))))
  · rw [← hs]
    exact e6'
  · simp only [exs, ← hs]
end K14
end

-- M40
section
set_option Elab.async false
set_option linter.all false
set_option maxRecDepth 100000
set_option maxHeartbeats 1000000
namespace K14
open PySem L2 Z
theorem perm_sum {a b : List Nat} (p : a.Perm b) : a.sum = b.sum := by
  induction p with
  | nil => rfl
  | cons a _ ih => simp only [List.sum_cons, ih]
  | swap a b l => simp only [List.sum_cons]; omega
  | trans _ _ h1 h2 => exact h1.trans h2
theorem PW.sumM {a b : List (List Int)} (q : PW a b) (f : Nat → Nat) : (a.map fun r => f r.length).sum = (b.map fun r => f r.length).sum := by
  induction q with
  | nil => rfl
  | cons p _ ih => simp only [List.map_cons, List.sum_cons, ih, p.length_eq]
theorem Same.sumM {a b : List (List Int)} (q : Same a b) (f : Nat → Nat) : (a.map fun r => f r.length).sum = (b.map fun r => f r.length).sum := by
  obtain ⟨ks, p, w⟩ := q
  rw [← w.sumM f]
  exact perm_sum (p.map _)
def sumL (ms : List (List Int)) : Nat := (ms.map fun r => r.length).sum
def sumX (ms : List (List Int)) : Nat := (ms.map fun r => max 1 r.length).sum
theorem fn23 (n vs h) : (S (n+1)).fn 23 vs h = Z.run cfg.G (S n) d23.fn vs h := rfl
theorem fn24 (n vs h) : (S (n+1)).fn 24 vs h = Z.run cfg.G (S n) d24.fn vs h := rfl
theorem fn25 (n vs h) : (S (n+1)).fn 25 vs h = Z.run cfg.G (S n) d25.fn vs h := rfl
theorem fn26 (n vs h) : (S (n+1)).fn 26 vs h = Z.run cfg.G (S n) d26.fn vs h := rfl
theorem fn37 (n vs h) : (S (n+1)).fn 37 vs h = Z.run cfg.G (S n) d37.fn vs h := rfl
theorem fn38 (n vs h) : (S (n+1)).fn 38 vs h = Z.run cfg.G (S n) d38.fn vs h := rfl
theorem t_points (n m : Nat) (hd cp : Int) (k : List Int) (ms : List (List Int)) (h : Hh) (q : FullAt h m hd cp k ms) (hl : ms.length ≤ 1000) : (S (n+1)).fn 37 [.ref m] h = some (.int ((k.length : Int) + (sumL ms : Nat)), h) := by
  have f8 := ev_fldF (cs := S n) (i := 0) (f := 8) (s := [some (.ref m), none]) rfl q rfl rfl
  have f9 := ev_fldF (cs := S n) (i := 0) (f := 9) (s := [some (.ref m), none]) rfl q rfl rfl
  have a1 := ev_lc (G := cfg.G) (cs := S n) (it := .seq (.fld 9 (.var 0))) (t := .nm 1) (ifs := .yes) (e := .app .len (.cons (.var 1) .nil)) (own := [1]) (s := [some (.ref m), none]) (h := h) (h1 := h) (xs := ms.map row) (g := [])
    (f := fun x => some (.int ((unz x).length : Nat))) (by simp only [evI, f9]; rfl) (fun x hx acc => by
      obtain ⟨r, hr, rfl⟩ := rows_mem hx
      refine ⟨[some (.ref m), some (row r)], by simp [Z.run, exs, ex.eq_1, ex.eq_2, ex.eq_3, ex.eq_4, ex.eq_5, ex.eq_6, ex.eq_7, ex.eq_8, ex.eq_9, ex.eq_10, ev.eq_1, ev.eq_2, ev.eq_3, ev.eq_4, ev.eq_5, ev.eq_6, ev.eq_7, ev.eq_8, ev.eq_9, ev.eq_10, ev.eq_11, ev.eq_12, ev.eq_13, ev.eq_14, ev.eq_15, ev.eq_16, ev.eq_17, ev.eq_18, ev.eq_19, ev.eq_22, ev.eq_23, evs, evT, evI, st, sts, prim1, prim2, primN, startD, truth_bl, truth_int, truth_non, ixD, seqOf, itSeq, tyD, newL, line, keyOf, kget, gOk, wipeD, allBls, allInts, atI, ixN, gc_pre, gc_same, gcb1, gcb2, gci1, gci2, gcn1, gcn2, gcs1, gcs2, below_bl, below_int, below_non, below_str, below_tup, below_gd, belows, eqP_int, get_last, set_last, enumD], .inl ⟨.int (r.length : Nat), by simp [Z.run, exs, ex.eq_1, ex.eq_2, ex.eq_3, ex.eq_4, ex.eq_5, ex.eq_6, ex.eq_7, ex.eq_8, ex.eq_9, ex.eq_10, ev.eq_1, ev.eq_2, ev.eq_3, ev.eq_4, ev.eq_5, ev.eq_6, ev.eq_7, ev.eq_8, ev.eq_9, ev.eq_10, ev.eq_11, ev.eq_12, ev.eq_13, ev.eq_14, ev.eq_15, ev.eq_16, ev.eq_17, ev.eq_18, ev.eq_19, ev.eq_22, ev.eq_23, evs, evT, evI, st, sts, prim1, prim2, primN, startD, truth_bl, truth_int, truth_non, ixD, seqOf, itSeq, tyD, newL, line, keyOf, kget, gOk, wipeD, allBls, allInts, atI, ixN, gc_pre, gc_same, gcb1, gcb2, gci1, gci2, gcn1, gcn2, gcs1, gcs2, below_bl, below_int, below_non, below_str, below_tup, below_gd, belows, eqP_int, get_last, set_last, enumD], ?_, by rw [unz_row]⟩⟩
      simp [Z.run, exs, ex.eq_1, ex.eq_2, ex.eq_3, ex.eq_4, ex.eq_5, ex.eq_6, ex.eq_7, ex.eq_8, ex.eq_9, ex.eq_10, ev.eq_1, ev.eq_2, ev.eq_3, ev.eq_4, ev.eq_5, ev.eq_6, ev.eq_7, ev.eq_8, ev.eq_9, ev.eq_10, ev.eq_11, ev.eq_12, ev.eq_13, ev.eq_14, ev.eq_15, ev.eq_16, ev.eq_17, ev.eq_18, ev.eq_19, ev.eq_22, ev.eq_23, evs, evT, evI, st, sts, prim1, prim2, primN, startD, truth_bl, truth_int, truth_non, ixD, seqOf, itSeq, tyD, newL, line, keyOf, kget, gOk, wipeD, allBls, allInts, atI, ixN, gc_pre, gc_same, gcb1, gcb2, gci1, gci2, gcn1, gcn2, gcs1, gcs2, below_bl, below_int, below_non, below_str, below_tup, below_gd, belows, eqP_int, get_last, set_last, enumD, zs_len]) rfl (by simp [Z.line]; omega)
  rw [rows_fm (k := fun r => .int (r.length : Nat)) fun r _ => by rw [unz_row]] at a1
  have g2 := allInts_nat (f := fun r : List Int => r.length) ms
  have g3 : (ms.map fun r => ((r.length : Nat) : Int)).sum = ((sumL ms : Nat) : Int) := by
    have := sum_nat (ms.map fun r => r.length)
    rw [List.map_map] at this
    exact this
  have a2 : ev cfg.G (S n) (.app .sum (.cons (.lc (.seq (.fld 9 (.var 0))) (.nm 1) .yes (.app .len (.cons (.var 1) .nil)) [1]) .nil)) [some (.ref m), none] h = some (.int ((sumL ms : Nat) : Int), h ++ [.lst (ms.map fun r => .int (r.length : Nat))]) := by
    refine ev_app1 a1 ?_
    simp only [prim1, get_last, g2, g3]
  have a3 : ev cfg.G (S n) (.app .len (.cons (.fld 8 (.var 0)) .nil)) [some (.ref m), none] h = some (.int k.length, h) := ev_app1 f8 (by simp [prim1, zs_len])
  rw [fn37]
  simp only [d37, DefT.fn, ir37]
  exact run_rt rfl (exs_rt (ex_ret (ev_bin (r := some (.int ((k.length : Int) + (sumL ms : Nat)), h ++ [.lst (ms.map fun r => .int (r.length : Nat))])) a3 a2 rfl))) gci2
def tri (hd cp : Int) (k : Nat) (p ms : Nat) : Int := (k : Int) + p + k - 2 * (2 - 2 * hd - cp - (ms : Int))
theorem t_tri (n m : Nat) (hd cp : Int) (k : List Int) (ms : List (List Int)) (h : Hh) (q : FullAt h m hd cp k ms) (hl : ms.length ≤ 1000) (b1 : 0 ≤ hd ∧ hd ≤ 60) (b2 : 0 ≤ cp ∧ cp ≤ 60) : (S (n+2)).fn 38 [.ref m] h = some (.int (tri hd cp k.length (sumL ms) ms.length), h) := by
  have f8 := ev_fldF (cs := S (n+1)) (i := 0) (f := 8) (s := [some (.ref m)]) rfl q rfl rfl
  have a1 := ev_umtF (cs := S (n+1)) (i := 0) (f := 2) (s := [some (.ref m)]) rfl q (by decide) rfl (t_points n m hd cp k ms h q hl)
  have a2 := ev_umtF (cs := S (n+1)) (i := 0) (f := 1) (s := [some (.ref m)]) rfl q (by decide) rfl (t_euler n m hd cp k ms h q b1)
  have hm : mulOk 2 (2 - 2 * hd - cp - (ms.length : Int)) = true := mulOk_of (by decide) (by omega)
  have a3 : ev cfg.G (S (n+1)) (.bin .mul (.con (.int 2)) (.umt 1 (.var 0) .nil)) [some (.ref m)] h = some (.int (2 * (2 - 2 * hd - cp - (ms.length : Int))), h) := ev_bin ev_int a2 (by simp only [prim2, hm, if_true])
  have a4 : ev cfg.G (S (n+1)) (.app .len (.cons (.fld 8 (.var 0)) .nil)) [some (.ref m)] h = some (.int k.length, h) := ev_app1 f8 (by simp [prim1, zs_len])
  rw [fn38]
  simp only [d38, DefT.fn, ir38]
  exact run_rt rfl (exs_rt (ex_ret (d := .int (tri hd cp k.length (sumL ms) ms.length)) (h1 := h) (ev_bin (r := some (.int (tri hd cp k.length (sumL ms) ms.length), h)) (ev_bin (r := some (.int ((k.length : Int) + (sumL ms : Nat) + k.length), h)) a1 a4 rfl) a3 rfl))) gci1
/-- how many inner points the barest one has -/
def inC (a b : Nat) : Nat := if a = 0 ∧ b = 0 then 1 else a
theorem fill_len (ms : List (List Int)) : sumL (ms.map fun r => if r = [] then [1] else r) = sumX ms := by
  unfold sumL sumX
  rw [List.map_map]
  congr 1
  refine List.map_congr_left fun r _ => ?_
  simp only [Function.comp]
  split
  · next e => subst e; rfl
  · next e =>
    have := List.length_pos_iff.mpr e
    omega
theorem t_barest (n m : Nat) (hd cp : Int) (k : List Int) (ms : List (List Int)) (h : Hh) (q : FullAt h m hd cp k ms) (o : OkF hd cp k ms) (hp : k.length + sumX ms ≤ 61) :
    ∃ k' ms', k'.length = inC (big k).length ms.length ∧ sumL ms' = sumX (ms.map big) ∧ ms'.length = ms.length ∧ (S (n+8)).fn 23 [.ref m] h = some (.ref h.length, h ++ [fullO hd cp k' ms']) := by
  obtain ⟨k1, m1, p1, p2, a1⟩ := t_without n m hd cp k ms h q o
  have a2 := ev_umtF (cs := S (n+7)) (i := 0) (f := 5) (s := [some (.ref m), none, none, none]) rfl q (by decide) rfl a1
  have q1 : FullAt (h ++ [fullO hd cp k1 m1]) h.length hd cp k1 m1 := get_last
  have len1 : m1.length = ms.length := by rw [p2.len, List.length_map]
  have w := sum_ge ms
  have ws : sumX ms = (ms.map fun r => max 1 r.length).sum := rfl
  generalize hH : h ++ [fullO hd cp k1 m1] = H at *
  have f6 := ev_fldF (cs := S (n+7)) (i := 1) (f := 6) (s := [some (.ref m), some (.ref h.length), some (row (if k1 = [] ∧ m1 = [] then [1] else k1)), none]) rfl q1 rfl rfl
  have f7 := ev_fldF (cs := S (n+7)) (i := 1) (f := 7) (s := [some (.ref m), some (.ref h.length), some (row (if k1 = [] ∧ m1 = [] then [1] else k1)), none]) rfl q1 rfl rfl
  have f8 := ev_fldF (cs := S (n+7)) (i := 1) (f := 8) (s := [some (.ref m), some (.ref h.length), none, none]) rfl q1 rfl rfl
  have f9 := ev_fldF (cs := S (n+7)) (i := 1) (f := 9) (s := [some (.ref m), some (.ref h.length), none, none]) rfl q1 rfl rfl
  have f9' := ev_fldF (cs := S (n+7)) (i := 1) (f := 9) (s := [some (.ref m), some (.ref h.length), some (row (if k1 = [] ∧ m1 = [] then [1] else k1)), none]) rfl q1 rfl rfl
  have pt := ev_umtF (cs := S (n+7)) (i := 1) (f := 2) (s := [some (.ref m), some (.ref h.length), none, none]) rfl q1 (by decide) rfl (t_points (n+6) h.length hd cp k1 m1 H q1 (by omega))
  have t1 : evT cfg.G (S (n+7)) (.val (.bin .eq (.umt 2 (.var 1) .nil) (.con (.int 0)))) [some (.ref m), some (.ref h.length), none, none] H = some (((k1.length : Int) + (sumL m1 : Nat)) == 0, H) := evT_val (ev_bin pt ev_int (by simp only [prim2, eqP_int]))
  have t2 : evT cfg.G (S (n+7)) (.val (.bin .eq (.fld 9 (.var 1)) (.tup .nil))) [some (.ref m), some (.ref h.length), none, none] H = some (decide (m1 = []), H) := evT_val (ev_bin f9 ev_tup0 (by simp only [prim2, eqP_tt0]))
  have t3 : evT cfg.G (S (n+7)) (.and (.val (.bin .eq (.umt 2 (.var 1) .nil) (.con (.int 0)))) (.val (.bin .eq (.fld 9 (.var 1)) (.tup .nil)))) [some (.ref m), some (.ref h.length), none, none] H = some (decide (k1 = [] ∧ m1 = []), H) := by
    by_cases c : ((k1.length : Int) + (sumL m1 : Nat)) = 0
    · have c' : (((k1.length : Int) + (sumL m1 : Nat)) == 0) = true := by simp [c]
      rw [c'] at t1
      have k0 : k1 = [] := List.length_eq_zero_iff.mp (by omega)
      refine (eT_andT t1 t2).trans ?_
      simp [k0]
    · have c' : (((k1.length : Int) + (sumL m1 : Nat)) == 0) = false := by simp [c]
      rw [c'] at t1
      refine (eT_andF t1).trans ?_
      have : ¬ (k1 = [] ∧ m1 = []) := fun ⟨e1, e2⟩ => by
        subst e1
        subst e2
        exact c rfl
      rw [decide_eq_false this]
  have x2 : ev cfg.G (S (n+7)) (.ite (.and (.val (.bin .eq (.umt 2 (.var 1) .nil) (.con (.int 0)))) (.val (.bin .eq (.fld 9 (.var 1)) (.tup .nil)))) (.tup (.cons (.con (.int 1)) .nil)) (.fld 8 (.var 1))) [some (.ref m), some (.ref h.length), none, none] H = some (row (if k1 = [] ∧ m1 = [] then [1] else k1), H) := by
    refine evT_ite t3 ?_
    by_cases c : k1 = [] ∧ m1 = []
    · rw [decide_eq_true c, if_pos rfl, if_pos c]
      simp only [ev, evs]
      rfl
    · rw [decide_eq_false c, if_neg (by simp), if_neg c]
      exact f8
  generalize hI : (if k1 = [] ∧ m1 = [] then [1] else k1) = I at *
  have lI : I.length = inC (big k).length ms.length := by
    rw [← hI, ← p1.length_eq, ← len1]
    unfold inC
    by_cases c : k1 = [] ∧ m1 = []
    · rw [if_pos c, if_pos ⟨by rw [c.1]; rfl, by rw [c.2]; rfl⟩]
      rfl
    · rw [if_neg c, if_neg fun e => c ⟨List.length_eq_zero_iff.mp e.1, List.length_eq_zero_iff.mp e.2⟩]
  have b3 := ev_lc (G := cfg.G) (cs := S (n+7)) (it := .seq (.fld 9 (.var 1))) (t := .nm 3) (ifs := .yes) (e := .ite (.val (.bin .eq (.var 3) (.tup .nil))) (.tup (.cons (.con (.int 1)) .nil)) (.var 3)) (own := [3]) (s := [some (.ref m), some (.ref h.length), some (row I), none]) (h := H) (h1 := H) (xs := m1.map row) (g := [])
    (f := fun x => some (row (if unz x = [] then [1] else unz x))) (by simp only [evI, f9']; rfl) (fun x hx acc => by
      obtain ⟨r, hr, rfl⟩ := rows_mem hx
      refine ⟨[some (.ref m), some (.ref h.length), some (row I), some (row r)], by simp [Z.run, exs, ex.eq_1, ex.eq_2, ex.eq_3, ex.eq_4, ex.eq_5, ex.eq_6, ex.eq_7, ex.eq_8, ex.eq_9, ex.eq_10, ev.eq_1, ev.eq_2, ev.eq_3, ev.eq_4, ev.eq_5, ev.eq_6, ev.eq_7, ev.eq_8, ev.eq_9, ev.eq_10, ev.eq_11, ev.eq_12, ev.eq_13, ev.eq_14, ev.eq_15, ev.eq_16, ev.eq_17, ev.eq_18, ev.eq_19, ev.eq_22, ev.eq_23, evs, evT, evI, st, sts, prim1, prim2, primN, startD, truth_bl, truth_int, truth_non, ixD, seqOf, itSeq, tyD, newL, line, keyOf, kget, gOk, wipeD, allBls, allInts, atI, ixN, gc_pre, gc_same, gcb1, gcb2, gci1, gci2, gcn1, gcn2, gcs1, gcs2, below_bl, below_int, below_non, below_str, below_tup, below_gd, belows, eqP_int, get_last, set_last, enumD], .inl ⟨row (if r = [] then [1] else r), by simp [Z.run, exs, ex.eq_1, ex.eq_2, ex.eq_3, ex.eq_4, ex.eq_5, ex.eq_6, ex.eq_7, ex.eq_8, ex.eq_9, ex.eq_10, ev.eq_1, ev.eq_2, ev.eq_3, ev.eq_4, ev.eq_5, ev.eq_6, ev.eq_7, ev.eq_8, ev.eq_9, ev.eq_10, ev.eq_11, ev.eq_12, ev.eq_13, ev.eq_14, ev.eq_15, ev.eq_16, ev.eq_17, ev.eq_18, ev.eq_19, ev.eq_22, ev.eq_23, evs, evT, evI, st, sts, prim1, prim2, primN, startD, truth_bl, truth_int, truth_non, ixD, seqOf, itSeq, tyD, newL, line, keyOf, kget, gOk, wipeD, allBls, allInts, atI, ixN, gc_pre, gc_same, gcb1, gcb2, gci1, gci2, gcn1, gcn2, gcs1, gcs2, below_bl, below_int, below_non, below_str, below_tup, below_gd, belows, eqP_int, get_last, set_last, enumD], ?_, by rw [unz_row]⟩⟩
      have w3 := ev_var (G := cfg.G) (cs := S (n+7)) (k := 3) (s := [some (.ref m), some (.ref h.length), some (row I), some (row r)]) (h := H ++ [.lst acc]) rfl
      refine evT_ite (evT_val (ev_bin w3 ev_tup0 (by simp only [prim2, eqP_row0]; rfl))) ?_
      by_cases c : r = []
      · rw [decide_eq_true c, if_pos rfl, if_pos c]
        simp only [ev, evs]
        rfl
      · rw [decide_eq_false c, if_neg (by simp), if_neg c]
        exact w3) rfl (by simp [Z.line]; omega)
  rw [rows_fm (k := fun r => row (if r = [] then [1] else r)) fun r _ => by rw [unz_row]] at b3
  have hrow : (m1.map fun r => row (if r = [] then [1] else r)) = (m1.map fun r => if r = [] then [1] else r).map row := by
    rw [List.map_map]
    rfl
  rw [hrow] at b3
  have c1 : evs cfg.G (S (n+7)) (.cons (.fld 6 (.var 1)) (.cons (.fld 7 (.var 1)) (.cons (.var 2) (.cons (.lc (.seq (.fld 9 (.var 1))) (.nm 3) .yes (.ite (.val (.bin .eq (.var 3) (.tup .nil))) (.tup (.cons (.con (.int 1)) .nil)) (.var 3)) [3]) .nil)))) [some (.ref m), some (.ref h.length), some (row I), none] H = some ([.int hd, .int cp, row I, .ref H.length], H ++ [.lst ((m1.map fun r => if r = [] then [1] else r).map row)]) := by
    have w2 := ev_var (G := cfg.G) (cs := S (n+7)) (k := 2) (s := [some (.ref m), some (.ref h.length), some (row I), none]) (h := H) rfl
    simp only [evs, f6, f7, w2, b3]
  have bg := o.big
  have hs1 : (m1.map fun r => max 1 r.length).sum = ((ms.map big).map fun r => max 1 r.length).sum := p2.sumM fun n => max 1 n
  have hs2 := sum_big ms
  have hs3 : ((m1.map fun r => if r = [] then [1] else r).map fun r => max 1 r.length).sum = (m1.map fun r => max 1 r.length).sum := by
    rw [List.map_map]
    congr 1
    refine List.map_congr_left fun r _ => ?_
    simp only [Function.comp]
    split
    · next e => subst e; rfl
    · rfl
  have lb : (big k).length ≤ k.length := big_le
  have oF : OkF hd cp I (m1.map fun r => if r = [] then [1] else r) := by
    refine ⟨o.hd0, o.hd1, o.cp0, o.cp1, o.one, ?_, ?_, ?_⟩
    · rw [← hI]
      split
      · intro i hi
        rw [List.mem_singleton.mp hi]
        omega
      · intro i hi
        exact bg.inn i (p1.mem_iff.mp hi)
    · intro r hr i hi
      obtain ⟨r', hr', rfl⟩ := List.mem_map.mp hr
      split at hi
      · rw [List.mem_singleton.mp hi]
        omega
      · have : i ∈ (ms.map big).flatten := p2.flat.mem_iff.mp (List.mem_flatten.mpr ⟨r', hr', hi⟩)
        obtain ⟨r2, h1, h2⟩ := List.mem_flatten.mp this
        exact bg.rim r2 h1 i h2
    · rw [hs3, hs1]
      have : I.length ≤ k.length + 1 := by
        rw [lI]
        unfold inC
        split <;> omega
      omega
  obtain ⟨k', ms', r1, r2, e⟩ := ev_new (n := n+1) c1 (.inl rfl) (.inr ⟨_, rfl, get_last⟩) (pwv_rows _) oF
  refine ⟨k', ms', by rw [r1.length_eq, lI], ?_, by rw [r2.len, List.length_map, len1], ?_⟩
  · have e1 : sumL ms' = sumL (m1.map fun r => if r = [] then [1] else r) := r2.sumM fun n => n
    rw [e1, fill_len]
    exact hs1
  · rw [fn23]
    simp only [d23, DefT.fn, ir23]
    refine run_rt rfl (exs_nx (ex_asg (i := 1) a2) (exs_nx (ex_asg (i := 2) x2) (exs_rt (ex_ret e)))) ?_
    rw [← hH, List.append_assoc h]
    exact gc_far below_full
end K14
end

-- M41
section
set_option Elab.async false
set_option linter.all false
set_option maxRecDepth 100000
set_option maxHeartbeats 1000000
namespace K14
open PySem L2 Z
theorem ev_umtE {cs : CS} {f g m : Nat} {X : Ex} {s : Sl} {h h1 : Hh} {hd cp : Int} {k : List Int} {ms : List (List Int)} {r : Option (D × Hh)} (hX : ev cfg.G cs X s h = some (.ref m, h1)) (q : FullAt h1 m hd cp k ms) (h6 : f < 6) (hm : cfg.G.mth 0 f = some g) (e : cs.fn g [.ref m] h1 = r) : ev cfg.G cs (.umt f X .nil) s h = r := by
  have q' : h1[m]? = some (fullO hd cp k ms) := q
  have hk : kget f [(6, D.int hd), (7, .int cp), (8, row k), (9, .tup (ms.map row)), (10, .tup [.int hd, .int cp, row k, .tup (ms.map row)])] = none := by
    simp only [kget]
    rw [if_neg (by omega), if_neg (by omega), if_neg (by omega), if_neg (by omega), if_neg (by omega)]
  rw [ev.eq_18, hX]
  simp only [q', fullO, hk, hm, evs, e]
theorem t_step (n m : Nat) (hd cp : Int) (k : List Int) (ms : List (List Int)) (h : Hh) (q : FullAt h m hd cp k ms) : (S (n+2)).fn 24 [.ref m] h = some (.int (if ms = [] then 2 else 1), h) := by
  have a0 := t_needfull n "full" m hd cp k ms h q
  have f9 := ev_fldF (cs := S (n+1)) (i := 0) (f := 9) (s := [some (.ref m)]) rfl q rfl rfl
  have t2 : evT cfg.G (S (n+1)) (.val (.bin .eq (.fld 9 (.var 0)) (.tup .nil))) [some (.ref m)] h = some (decide (ms = []), h) := evT_val (ev_bin f9 ev_tup0 (by simp only [prim2, eqP_tt0]))
  have x1 : ex cfg.G (S (n+1)) (.exp (.call 15 (.cons (.con (.str "full")) (.cons (.var 0) .nil)))) [some (.ref m)] h = some (.nx [some (.ref m)] h) := by
    simp [Z.run, exs, ex.eq_1, ex.eq_2, ex.eq_3, ex.eq_4, ex.eq_5, ex.eq_6, ex.eq_7, ex.eq_8, ex.eq_9, ex.eq_10, ev.eq_1, ev.eq_2, ev.eq_3, ev.eq_4, ev.eq_5, ev.eq_6, ev.eq_7, ev.eq_8, ev.eq_9, ev.eq_10, ev.eq_11, ev.eq_12, ev.eq_13, ev.eq_14, ev.eq_15, ev.eq_16, ev.eq_17, ev.eq_18, ev.eq_19, ev.eq_22, ev.eq_23, evs, evT, evI, st, sts, prim1, prim2, primN, startD, truth_bl, truth_int, truth_non, ixD, seqOf, itSeq, tyD, newL, line, keyOf, kget, gOk, wipeD, allBls, allInts, atI, ixN, gc_pre, gc_same, gcb1, gcb2, gci1, gci2, gcn1, gcn2, gcs1, gcs2, below_bl, below_int, below_non, below_str, below_tup, below_gd, belows, eqP_int, get_last, set_last, enumD, a0]
  rw [fn24]
  simp only [d24, DefT.fn, ir24]
  refine run_rt rfl (exs_nx x1 (exs_rt (v := .int (if ms = [] then 2 else 1)) (h2 := h) (ex_ret (evT_ite t2 ?_)))) gci1
  by_cases c : ms = []
  · rw [decide_eq_true c, if_pos rfl, if_pos c]
    exact ev_int
  · rw [decide_eq_false c, if_neg (by simp), if_neg c]
    exact ev_int
def leastN (hd cp : Int) (k : List Int) (ms : List (List Int)) : Int := tri hd cp (inC (big k).length ms.length) (sumX (ms.map big)) ms.length
theorem t_leastN (n m : Nat) (hd cp : Int) (k : List Int) (ms : List (List Int)) (h : Hh) (q : FullAt h m hd cp k ms) (o : OkF hd cp k ms) (hp : k.length + sumX ms ≤ 61) (hN : 1 ≤ leastN hd cp k ms) : (S (n+9)).fn 25 [.ref m] h = some (.int (leastN hd cp k ms), h) := by
  have a0 := t_needfull (n+7) "full" m hd cp k ms h q
  obtain ⟨k', ms', l1, l2, l3, a1⟩ := t_barest n m hd cp k ms h q o hp
  have w := sum_ge ms
  have ws : sumX ms = (ms.map fun r => max 1 r.length).sum := rfl
  have a2 : ev cfg.G (S (n+8)) (.call 23 (.cons (.var 0) .nil)) [some (.ref m), none] h = some (.ref h.length, h ++ [fullO hd cp k' ms']) := ev_call1 (ev_var rfl) a1
  have a3 := ev_umtE (cs := S (n+8)) (f := 3) a2 get_last (by decide) rfl (t_tri (n+6) h.length hd cp k' ms' (h ++ [fullO hd cp k' ms']) get_last (by omega) ⟨o.hd0, o.hd1⟩ ⟨o.cp0, o.cp1⟩)
  rw [l1, l2, l3] at a3
  have x1 : ex cfg.G (S (n+8)) (.exp (.call 15 (.cons (.con (.str "full")) (.cons (.var 0) .nil)))) [some (.ref m), none] h = some (.nx [some (.ref m), none] h) := by
    simp [Z.run, exs, ex.eq_1, ex.eq_2, ex.eq_3, ex.eq_4, ex.eq_5, ex.eq_6, ex.eq_7, ex.eq_8, ex.eq_9, ex.eq_10, ev.eq_1, ev.eq_2, ev.eq_3, ev.eq_4, ev.eq_5, ev.eq_6, ev.eq_7, ev.eq_8, ev.eq_9, ev.eq_10, ev.eq_11, ev.eq_12, ev.eq_13, ev.eq_14, ev.eq_15, ev.eq_16, ev.eq_17, ev.eq_18, ev.eq_19, ev.eq_22, ev.eq_23, evs, evT, evI, st, sts, prim1, prim2, primN, startD, truth_bl, truth_int, truth_non, ixD, seqOf, itSeq, tyD, newL, line, keyOf, kget, gOk, wipeD, allBls, allInts, atI, ixN, gc_pre, gc_same, gcb1, gcb2, gci1, gci2, gcn1, gcn2, gcs1, gcs2, below_bl, below_int, below_non, below_str, below_tup, below_gd, belows, eqP_int, get_last, set_last, enumD, a0]
  have t1 : evT cfg.G (S (n+8)) (.val (.bin .lt (.var 1) (.con (.int 1)))) [some (.ref m), some (.int (leastN hd cp k ms))] (h ++ [fullO hd cp k' ms']) = some (false, h ++ [fullO hd cp k' ms']) := by
    refine evT_val (ev_bin (ev_var rfl) ev_int ?_)
    simp only [prim2]
    rw [decide_eq_false (by omega)]
  have x3 : ∀ b, ex cfg.G (S (n+8)) (.whl (.val (.bin .lt (.var 1) (.con (.int 1)))) b) [some (.ref m), some (.int (leastN hd cp k ms))] (h ++ [fullO hd cp k' ms']) = some (.nx [some (.ref m), some (.int (leastN hd cp k ms))] (h ++ [fullO hd cp k' ms'])) := fun b => by
    simp only [ex]
    rw [show loopMax = 999999 + 1 from rfl, whileN, t1]
  rw [fn25]
  simp only [d25, DefT.fn, ir25]
  exact run_rt rfl (exs_nx x1 (exs_nx (ex_asg (i := 1) a3) (exs_nx (x3 _) (exs_rt (v := .int (leastN hd cp k ms)) (h2 := h ++ [fullO hd cp k' ms']) (ex_ret (ev_var rfl)))))) gci2
theorem t_may (n m : Nat) (hd cp : Int) (k : List Int) (ms : List (List Int)) (h : Hh) (q : FullAt h m hd cp k ms) (o : OkF hd cp k ms) (hp : k.length + sumX ms ≤ 61) (hN : 1 ≤ leastN hd cp k ms) (hM : leastN hd cp k ms ≤ 60) : (S (n+10)).fn 26 [.ref m, .int (leastN hd cp k ms)] h = some (.bl true, h) := by
  have a0 := t_needfull (n+8) "full" m hd cp k ms h q
  have a1 := t_needint (n+8) "many" (leastN hd cp k ms) 1 60 h hN hM
  have a2 := t_leastN n m hd cp k ms h q o hp hN
  have a3 := t_step (n+7) m hd cp k ms h q
  have g0 : cfg.G.glo 0 = .int 60 := rfl
  generalize leastN hd cp k ms = N at *
  have x1 : ex cfg.G (S (n+9)) (.exp (.call 15 (.cons (.con (.str "full")) (.cons (.var 0) .nil)))) [some (.ref m), some (.int N), none] h = some (.nx [some (.ref m), some (.int N), none] h) := by
    simp [Z.run, exs, ex.eq_1, ex.eq_2, ex.eq_3, ex.eq_4, ex.eq_5, ex.eq_6, ex.eq_7, ex.eq_8, ex.eq_9, ex.eq_10, ev.eq_1, ev.eq_2, ev.eq_3, ev.eq_4, ev.eq_5, ev.eq_6, ev.eq_7, ev.eq_8, ev.eq_9, ev.eq_10, ev.eq_11, ev.eq_12, ev.eq_13, ev.eq_14, ev.eq_15, ev.eq_16, ev.eq_17, ev.eq_18, ev.eq_19, ev.eq_22, ev.eq_23, evs, evT, evI, st, sts, prim1, prim2, primN, startD, truth_bl, truth_int, truth_non, ixD, seqOf, itSeq, tyD, newL, line, keyOf, kget, gOk, wipeD, allBls, allInts, atI, ixN, gc_pre, gc_same, gcb1, gcb2, gci1, gci2, gcn1, gcn2, gcs1, gcs2, below_bl, below_int, below_non, below_str, below_tup, below_gd, belows, eqP_int, get_last, set_last, enumD, a0]
  have x2 : ex cfg.G (S (n+9)) (.exp (.call 1 (.cons (.con (.str "many")) (.cons (.var 1) (.cons (.con (.int 1)) (.cons (.glo 0) .nil)))))) [some (.ref m), some (.int N), none] h = some (.nx [some (.ref m), some (.int N), none] h) := by
    simp [Z.run, exs, ex.eq_1, ex.eq_2, ex.eq_3, ex.eq_4, ex.eq_5, ex.eq_6, ex.eq_7, ex.eq_8, ex.eq_9, ex.eq_10, ev.eq_1, ev.eq_2, ev.eq_3, ev.eq_4, ev.eq_5, ev.eq_6, ev.eq_7, ev.eq_8, ev.eq_9, ev.eq_10, ev.eq_11, ev.eq_12, ev.eq_13, ev.eq_14, ev.eq_15, ev.eq_16, ev.eq_17, ev.eq_18, ev.eq_19, ev.eq_22, ev.eq_23, evs, evT, evI, st, sts, prim1, prim2, primN, startD, truth_bl, truth_int, truth_non, ixD, seqOf, itSeq, tyD, newL, line, keyOf, kget, gOk, wipeD, allBls, allInts, atI, ixN, gc_pre, gc_same, gcb1, gcb2, gci1, gci2, gcn1, gcn2, gcs1, gcs2, below_bl, below_int, below_non, below_str, below_tup, below_gd, belows, eqP_int, get_last, set_last, enumD, a1, g0]
  have x3 : ev cfg.G (S (n+9)) (.call 25 (.cons (.var 0) .nil)) [some (.ref m), some (.int N), none] h = some (.int N, h) := ev_call1 (ev_var rfl) a2
  have w1 := ev_var (G := cfg.G) (cs := S (n+9)) (k := 1) (s := [some (.ref m), some (.int N), some (.int N)]) (h := h) rfl
  have w2 := ev_var (G := cfg.G) (cs := S (n+9)) (k := 2) (s := [some (.ref m), some (.int N), some (.int N)]) (h := h) rfl
  have c1 : ev cfg.G (S (n+9)) (.bin .ge (.var 1) (.var 2)) [some (.ref m), some (.int N), some (.int N)] h = some (.bl true, h) := ev_bin w1 w2 (by simp [prim2])
  have c2 : ev cfg.G (S (n+9)) (.call 24 (.cons (.var 0) .nil)) [some (.ref m), some (.int N), some (.int N)] h = some (.int (if ms = [] then 2 else 1), h) := ev_call1 (ev_var rfl) a3
  have c3 : ev cfg.G (S (n+9)) (.bin .mod (.bin .sub (.var 1) (.var 2)) (.call 24 (.cons (.var 0) .nil))) [some (.ref m), some (.int N), some (.int N)] h = some (.int 0, h) := by
    refine ev_bin (ev_bin (r := some (.int 0, h)) w1 w2 (by simp [prim2])) c2 ?_
    have : (if ms = [] then (2 : Int) else 1) ≠ 0 := by split <;> decide
    simp only [prim2, this, ne_eq, not_false_eq_true, if_true]
    simp
  have c4 : ev cfg.G (S (n+9)) (.bin .eq (.bin .mod (.bin .sub (.var 1) (.var 2)) (.call 24 (.cons (.var 0) .nil))) (.con (.int 0))) [some (.ref m), some (.int N), some (.int N)] h = some (.bl true, h) := ev_bin c3 ev_int (by simp [prim2, eqP_int])
  rw [fn26]
  simp only [d26, DefT.fn, ir26]
  exact run_rt rfl (exs_nx x1 (exs_nx x2 (exs_nx (ex_asg (i := 2) x3) (exs_rt (ex_ret (ev_and c1 (r := some (.bl true, h)) (by rw [if_pos rfl]; exact c4))))))) gcb1
end K14
end

-- M42
section
set_option Elab.async false
set_option linter.all false
set_option maxRecDepth 100000
set_option maxHeartbeats 1000000
namespace K14
open PySem L2 Z
structure Sg where
  hd : Int
  cp : Int
  l : List Int
  rs : List (List Int)
def elD (s : Sg) (a b : Nat) : D := .tup [.tup [.int s.hd, .int s.cp, .ref a, .ref b], .tup []]
def El (h : Hh) (x : D) (s : Sg) : Prop := ∃ a b ys, x = elD s a b ∧ h[a]? = some (.lst (zs s.l)) ∧ h[b]? = some (.lst ys) ∧ PWV h ys s.rs
theorem El.app {h t : Hh} {x : D} {s : Sg} (q : El h x s) : El (h ++ t) x s := by
  obtain ⟨a, b, ys, e, g1, g2, p⟩ := q
  exact ⟨a, b, ys, e, app_at g1, app_at g2, p.app⟩
inductive Els (h : Hh) : List D → List Sg → Prop
  | nil : Els h [] []
  | cons {x : D} {s : Sg} {xs : List D} {ss : List Sg} : El h x s → Els h xs ss → Els h (x :: xs) (s :: ss)
theorem Els.app {h t : Hh} {xs : List D} {ss : List Sg} (q : Els h xs ss) : Els (h ++ t) xs ss := by
  induction q with
  | nil => exact .nil
  | cons a _ ih => exact .cons a.app ih
theorem Els.cat {h : Hh} {xs ys : List D} {ss tt : List Sg} (q : Els h xs ss) (r : Els h ys tt) : Els h (xs ++ ys) (ss ++ tt) := by
  induction q with
  | nil => exact r
  | cons a _ ih => exact .cons a ih
theorem Els.len {h : Hh} {xs : List D} {ss : List Sg} (q : Els h xs ss) : xs.length = ss.length := by
  induction q with
  | nil => rfl
  | cons a _ ih => simp [ih]
section
variable (cs : CS)
def MkL (e : Ex) (l : List Int) : Prop := ∀ s h, ∃ a t, ev cfg.G cs e s h = some (.ref a, h ++ t) ∧ (h ++ t)[a]? = some (.lst (zs l))
def MkRs (es : Exs) (rs : List (List Int)) : Prop := ∀ s h, ∃ ys t, evs cfg.G cs es s h = some (ys, h ++ t) ∧ PWV (h ++ t) ys rs
def MkR (e : Ex) (rs : List (List Int)) : Prop := ∀ s h, ∃ b ys t, ev cfg.G cs e s h = some (.ref b, h ++ t) ∧ (h ++ t)[b]? = some (.lst ys) ∧ PWV (h ++ t) ys rs
def MkEs (es : Exs) (ss : List Sg) : Prop := ∀ s h, ∃ xs t, evs cfg.G cs es s h = some (xs, h ++ t) ∧ Els (h ++ t) xs ss
end
variable {cs : CS}
theorem mkL_lit {es : Exs} {l : List Int} (e : ∀ s h, evs cfg.G cs es s h = some (zs l, h)) (hl : l.length ≤ 1000) : MkL cs (.lst es) l := fun s h => ⟨h.length, [.lst (zs l)], ev_lit (e s h) (by rw [zs_len]; exact hl), get_last⟩
theorem mkL_nil : MkL cs (.lst .nil) [] := mkL_lit (fun s h => by simp only [evs]; rfl) (by decide)
theorem mkRs_nil : MkRs cs .nil [] := fun s h => ⟨[], [], by simp [evs], .nil⟩
theorem mkRs_cons {e : Ex} {es : Exs} {l : List Int} {rs : List (List Int)} (a : MkL cs e l) (b : MkRs cs es rs) : MkRs cs (.cons e es) (l :: rs) := fun s h => by
  obtain ⟨r, t, e1, g1⟩ := a s h
  obtain ⟨ys, t2, e2, p⟩ := b s (h ++ t)
  refine ⟨.ref r :: ys, t ++ t2, ?_, ?_⟩
  · simp only [evs, e1, e2, List.append_assoc]
  · rw [← List.append_assoc]
    exact .cons (.inr ⟨r, rfl, app_at g1⟩) p
theorem mkR_lst {es : Exs} {rs : List (List Int)} (b : MkRs cs es rs) (hl : rs.length ≤ 1000) : MkR cs (.lst es) rs := fun s h => by
  obtain ⟨ys, t, e, p⟩ := b s h
  refine ⟨(h ++ t).length, ys, t ++ [.lst ys], ?_, ?_, ?_⟩
  · rw [ev.eq_5, e]
    simp only [newL]
    rw [if_pos (by rw [p.len]; unfold Z.line; omega), List.append_assoc]
  · rw [← List.append_assoc]
    exact get_last
  · rw [← List.append_assoc]
    exact p.app
theorem mkEs_nil : MkEs cs .nil [] := fun s h => ⟨[], [], by simp [evs], .nil⟩
theorem mkEs_cons {e3 e4 : Ex} {es : Exs} {g : Sg} {ss : List Sg} (a : MkL cs e3 g.l) (b : MkR cs e4 g.rs) (c : MkEs cs es ss) : MkEs cs (.cons (.tup (.cons (.tup (.cons (.con (.int g.hd)) (.cons (.con (.int g.cp)) (.cons e3 (.cons e4 .nil))))) (.cons (.tup .nil) .nil))) es) (g :: ss) := fun s h => by
  obtain ⟨r, t1, e1, g1⟩ := a s h
  obtain ⟨q, ys, t2, e2, g2, p⟩ := b s (h ++ t1)
  obtain ⟨xs, t3, e5, p3⟩ := c s (h ++ t1 ++ t2)
  refine ⟨elD g r q :: xs, t1 ++ t2 ++ t3, ?_, ?_⟩
  · rw [evs.eq_2]
    have z : ev cfg.G cs (.tup (.cons (.tup (.cons (.con (.int g.hd)) (.cons (.con (.int g.cp)) (.cons e3 (.cons e4 .nil))))) (.cons (.tup .nil) .nil))) s h = some (elD g r q, h ++ t1 ++ t2) := by
      rw [ev.eq_4]
      have z1 : ev cfg.G cs (.tup (.cons (.con (.int g.hd)) (.cons (.con (.int g.cp)) (.cons e3 (.cons e4 .nil))))) s h = some (.tup [.int g.hd, .int g.cp, .ref r, .ref q], h ++ t1 ++ t2) := by
        rw [ev.eq_4]
        simp only [evs, ev.eq_2, e1, e2]
        rfl
      simp only [evs, z1, ev_tup0]
      rfl
    simp only [z, e5]
    simp
  · have : h ++ (t1 ++ t2 ++ t3) = h ++ t1 ++ t2 ++ t3 := by simp
    rw [this]
    exact .cons ⟨r, q, ys, rfl, app_at (app_at g1), app_at g2, p.app⟩ p3
theorem lc17a {body : D → Hh → Option (Option D × Hh)} {h : Hh} (hb : ∀ a l acc t, h[a]? = some (.lst (zs l)) → body (.ref a) (h ++ .lst acc :: t) = some (some (elD ⟨0, 0, l, []⟩ a (h.length + 1 + t.length)), h ++ .lst acc :: (t ++ [.lst []]))) : ∀ {as : List Nat} {ls : List (List Int)} (acc : List D) (t : Hh), LsAt h as ls → acc.length + as.length ≤ 1000 →
    ∃ ys T, lcGo body [] h.length (as.map D.ref) (h ++ .lst acc :: t) = some (h ++ .lst (acc ++ ys) :: (t ++ T)) ∧ ∀ acc', Els (h ++ .lst acc' :: (t ++ T)) ys (ls.map fun l => ⟨0, 0, l, []⟩)
  | [], [], acc, t, .nil, hl => ⟨[], [], by simp [lcGo, gOk], fun _ => .nil⟩
  | a :: as, l :: ls, acc, t, .cons g q, hl => by
    simp only [List.length_cons] at hl
    obtain ⟨ys, T, e, p⟩ := lc17a hb (acc ++ [elD ⟨0, 0, l, []⟩ a (h.length + 1 + t.length)]) (t ++ [.lst []]) q (by simp only [List.length_append, List.length_cons, List.length_nil]; omega)
    refine ⟨elD ⟨0, 0, l, []⟩ a (h.length + 1 + t.length) :: ys, [.lst []] ++ T, ?_, fun acc' => ?_⟩
    · simp only [List.map_cons, lcGo, hb a l acc t g, get_mid, set_mid]
      rw [if_pos (show gOk [] (h ++ O.lst acc :: t) = true from rfl), if_pos (by unfold Z.line; omega), e]
      simp
    · have p' := p acc'
      rw [List.append_assoc] at p'
      refine .cons ⟨a, _, [], rfl, app_at g, ?_, .nil⟩ p'
      have : h ++ O.lst acc' :: (t ++ ([.lst []] ++ T)) = (h ++ [O.lst acc'] ++ t) ++ .lst [] :: T := by simp
      rw [this]
      have l2 : h.length + 1 + t.length = (h ++ [O.lst acc'] ++ t).length := by simp; omega
      rw [l2]
      exact get_mid
inductive L2At (h : Hh) : List D → List (List Int × List Int) → Prop
  | nil : L2At h [] []
  | cons {a b : Nat} {l r : List Int} {xs : List D} {ls : List (List Int × List Int)} : h[a]? = some (.lst (zs l)) → h[b]? = some (.lst (zs r)) → L2At h xs ls → L2At h (.tup [.ref a, .ref b] :: xs) ((l, r) :: ls)
theorem lc17b {body : D → Hh → Option (Option D × Hh)} {h : Hh} (hb : ∀ a b l acc t, body (.tup [.ref a, .ref b]) (h ++ .lst acc :: t) = some (some (elD ⟨0, 0, l, []⟩ a (h.length + 1 + t.length)), h ++ .lst acc :: (t ++ [.lst [.ref b]]))) : ∀ {xs : List D} {ls : List (List Int × List Int)} (acc : List D) (t : Hh), L2At h xs ls → acc.length + xs.length ≤ 1000 →
    ∃ ys T, lcGo body [] h.length xs (h ++ .lst acc :: t) = some (h ++ .lst (acc ++ ys) :: (t ++ T)) ∧ ∀ acc', Els (h ++ .lst acc' :: (t ++ T)) ys (ls.map fun l => ⟨0, 0, l.1, [l.2]⟩)
  | [], [], acc, t, .nil, hl => ⟨[], [], by simp [lcGo, gOk], fun _ => .nil⟩
  | _, _, acc, t, .cons (a := a) (b := b) (l := l) (r := r) (xs := xs) (ls := ls) g g2 q, hl => by
    simp only [List.length_cons] at hl
    obtain ⟨ys, T, e, p⟩ := lc17b hb (acc ++ [elD ⟨0, 0, l, []⟩ a (h.length + 1 + t.length)]) (t ++ [.lst [.ref b]]) q (by simp only [List.length_append, List.length_cons, List.length_nil]; omega)
    refine ⟨elD ⟨0, 0, l, []⟩ a (h.length + 1 + t.length) :: ys, [.lst [.ref b]] ++ T, ?_, fun acc' => ?_⟩
    · simp only [lcGo, hb a b l acc t, get_mid, set_mid]
      rw [if_pos (show gOk [] (h ++ O.lst acc :: t) = true from rfl), if_pos (by unfold Z.line; omega), e]
      simp
    · have p' := p acc'
      rw [List.append_assoc] at p'
      refine .cons ⟨a, _, [.ref b], rfl, app_at g, ?_, .cons (.inr ⟨b, rfl, app_at g2⟩) .nil⟩ p'
      have : h ++ O.lst acc' :: (t ++ ([.lst [.ref b]] ++ T)) = (h ++ [O.lst acc'] ++ t) ++ .lst [.ref b] :: T := by simp
      rw [this]
      have l2 : h.length + 1 + t.length = (h ++ [O.lst acc'] ++ t).length := by simp; omega
      rw [l2]
      exact get_mid
end K14
end

-- M43
section
set_option Elab.async false
set_option linter.all false
set_option maxRecDepth 100000
set_option maxHeartbeats 1000000
namespace K14
open PySem L2 Z
variable {cs : CS}
def MkNs (cs : CS) (es : Exs) (ls : List (List Int)) : Prop := ∀ s h, ∃ as t, evs cfg.G cs es s h = some (as.map D.ref, h ++ t) ∧ LsAt (h ++ t) as ls
theorem mkNs_nil : MkNs cs .nil [] := fun s h => ⟨[], [], by simp [evs], .nil⟩
theorem mkNs_cons {e : Ex} {es : Exs} {l : List Int} {rs : List (List Int)} (a : MkL cs e l) (b : MkNs cs es rs) : MkNs cs (.cons e es) (l :: rs) := fun s h => by
  obtain ⟨r, t, e1, g1⟩ := a s h
  obtain ⟨as, t2, e2, p⟩ := b s (h ++ t)
  refine ⟨r :: as, t ++ t2, ?_, ?_⟩
  · simp only [evs, e1, e2, List.append_assoc]
    rfl
  · rw [← List.append_assoc]
    exact .cons (app_at g1) p
def MkPs (cs : CS) (es : Exs) (ls : List (List Int × List Int)) : Prop := ∀ s h, ∃ xs t, evs cfg.G cs es s h = some (xs, h ++ t) ∧ L2At (h ++ t) xs ls
theorem mkPs_nil : MkPs cs .nil [] := fun s h => ⟨[], [], by simp [evs], .nil⟩
theorem L2At.len {h : Hh} {xs : List D} {ls : List (List Int × List Int)} (q : L2At h xs ls) : xs.length = ls.length := by
  induction q with
  | nil => rfl
  | cons _ _ _ ih => simp [ih]
theorem mkPs_cons {e1 e2 : Ex} {es : Exs} {l r : List Int} {rs : List (List Int × List Int)} (a : MkL cs e1 l) (b : MkL cs e2 r) (c : MkPs cs es rs) : MkPs cs (.cons (.tup (.cons e1 (.cons e2 .nil))) es) ((l, r) :: rs) := fun s h => by
  obtain ⟨x, t, f1, g1⟩ := a s h
  obtain ⟨y, t2, f2, g2⟩ := b s (h ++ t)
  obtain ⟨xs, t3, f3, p⟩ := c s (h ++ t ++ t2)
  refine ⟨.tup [.ref x, .ref y] :: xs, t ++ t2 ++ t3, ?_, ?_⟩
  · have z : ev cfg.G cs (.tup (.cons e1 (.cons e2 .nil))) s h = some (.tup [.ref x, .ref y], h ++ t ++ t2) := by
      rw [ev.eq_4]
      simp only [evs, f1, f2]
      rfl
    rw [evs.eq_2]
    simp only [z, f3]
    simp
  · have : h ++ (t ++ t2 ++ t3) = h ++ t ++ t2 ++ t3 := by simp
    rw [this]
    exact .cons (app_at (app_at g1)) (app_at g2) p
def lit4 (a b c d : Int) : Ex := .lst (.cons (.con (.int a)) (.cons (.con (.int b)) (.cons (.con (.int c)) (.cons (.con (.int d)) .nil))))
theorem mkL1 {a : Int} : MkL cs (.lst (.cons (.con (.int a)) .nil)) [a] := mkL_lit (fun s h => by simp only [evs, ev.eq_2]; rfl) (by simp)
theorem mkL2 {a b : Int} : MkL cs (.lst (.cons (.con (.int a)) (.cons (.con (.int b)) .nil))) [a, b] := mkL_lit (fun s h => by simp only [evs, ev.eq_2]; rfl) (by simp)
theorem mkL3 {a b c : Int} : MkL cs (.lst (.cons (.con (.int a)) (.cons (.con (.int b)) (.cons (.con (.int c)) .nil)))) [a, b, c] := mkL_lit (fun s h => by simp only [evs, ev.eq_2]; rfl) (by simp)
theorem mkL4 {a b c d : Int} : MkL cs (.lst (.cons (.con (.int a)) (.cons (.con (.int b)) (.cons (.con (.int c)) (.cons (.con (.int d)) .nil))))) [a, b, c, d] := mkL_lit (fun s h => by simp only [evs, ev.eq_2]; rfl) (by simp)
theorem mkR0 : MkR cs (.lst .nil) [] := mkR_lst mkRs_nil (by decide)
/-- a list of signatures lies there -/
def LE (h : Hh) (n : Nat) (ss : List Sg) : Prop := ∃ xs, h[n]? = some (.lst xs) ∧ Els h xs ss
theorem LE.app {h t : Hh} {n : Nat} {ss : List Sg} (q : LE h n ss) : LE (h ++ t) n ss := by
  obtain ⟨xs, a, b⟩ := q
  exact ⟨xs, app_at a, b.app⟩
theorem ev_les {es : Exs} {ss : List Sg} (c : MkEs cs es ss) (hl : ss.length ≤ 1000) (s : Sl) (h : Hh) : ∃ n t, ev cfg.G cs (.lst es) s h = some (.ref n, h ++ t) ∧ LE (h ++ t) n ss := by
  obtain ⟨xs, t, e, p⟩ := c s h
  refine ⟨(h ++ t).length, t ++ [.lst xs], ?_, xs, ?_, ?_⟩
  · rw [ev.eq_5, e]
    simp only [newL]
    rw [if_pos (by rw [p.len]; unfold Z.line; omega), List.append_assoc]
  · rw [← List.append_assoc]
    exact get_last
  · rw [← List.append_assoc]
    exact p.app
theorem ev_addE {X Y : Ex} {s : Sl} {h h1 h2 : Hh} {a b : Nat} {ss tt : List Sg} (hX : ev cfg.G cs X s h = some (.ref a, h1)) (hY : ev cfg.G cs Y s h1 = some (.ref b, h2)) (qa : LE h2 a ss) (qb : LE h2 b tt) (hl : ss.length + tt.length ≤ 1000) : ∃ n t, ev cfg.G cs (.bin .add X Y) s h = some (.ref n, h2 ++ t) ∧ LE (h2 ++ t) n (ss ++ tt) := by
  obtain ⟨xs, a1, a2⟩ := qa
  obtain ⟨ys, b1, b2⟩ := qb
  refine ⟨h2.length, [.lst (xs ++ ys)], ev_bin hX hY ?_, xs ++ ys, get_last, (a2.cat b2).app⟩
  simp only [prim2, a1, b1, newL]
  rw [if_pos (by rw [a2.len, b2.len]; unfold Z.line; omega)]
/-- the first comprehension -/
theorem ev_lcA {es : Exs} {ls : List (List Int)} (c : MkNs cs es ls) (hl : ls.length ≤ 1000) (s : Sl) (hs : 16 < s.length) (h : Hh) : ∃ n t, ev cfg.G cs (.lc (.seq (.tup es)) (.nm 16) .yes (.tup (.cons (.tup (.cons (.con (.int 0)) (.cons (.con (.int 0)) (.cons (.var 16) (.cons (.lst .nil) .nil))))) (.cons (.tup .nil) .nil))) [16]) s h = some (.ref n, h ++ t) ∧ LE (h ++ t) n (ls.map fun l => ⟨0, 0, l, []⟩) := by
  obtain ⟨as, t, e, q⟩ := c s h
  have hlen := q.len
  have hI : evI cfg.G cs (.seq (.tup es)) s h = some (as.map D.ref, [], h ++ t) := by
    have : ev cfg.G cs (.tup es) s h = some (.tup (as.map D.ref), h ++ t) := by
      rw [ev.eq_4, e]
      simp only []
      rw [if_pos (by rw [List.length_map, hlen]; unfold Z.line; omega)]
    simp only [evI, this]
    rfl
  rw [ev.eq_20]
  simp only [hI]
  generalize hbody : (fun x h => match st cfg.G cs (.nm 16) x (wipeD s [16]) h with
        | some (s2, h2) => match evT cfg.G cs .yes s2 h2 with
          | some (true, h3) => match ev cfg.G cs (.tup (.cons (.tup (.cons (.con (.int 0)) (.cons (.con (.int 0)) (.cons (.var 16) (.cons (.lst .nil) .nil))))) (.cons (.tup .nil) .nil))) s2 h3 with
            | some (y, h4) => some (some y, h4)
            | none => none
          | some (false, h3) => some (none, h3)
          | none => none
        | none => none : D → Hh → Option (Option D × Hh)) = body
  obtain ⟨ys, T, r1, r2⟩ := lc17a (body := body) (h := h ++ t) (fun a l acc t2 g => by
    rw [← hbody]
    have w := ev_varset (G := cfg.G) (cs := cs) (v := .ref a) (h := h ++ t ++ O.lst acc :: t2) hs
    have z1 : ev cfg.G cs (.tup (.cons (.con (.int 0)) (.cons (.con (.int 0)) (.cons (.var 16) (.cons (.lst .nil) .nil))))) (s.set 16 (some (.ref a))) (h ++ t ++ O.lst acc :: t2) = some (.tup [.int 0, .int 0, .ref a, .ref (h ++ t ++ O.lst acc :: t2).length], h ++ t ++ O.lst acc :: t2 ++ [.lst []]) := by
      rw [ev.eq_4]
      simp only [evs, ev.eq_2, w, ev_nl]
      rfl
    have z2 : ev cfg.G cs (.tup (.cons (.tup (.cons (.con (.int 0)) (.cons (.con (.int 0)) (.cons (.var 16) (.cons (.lst .nil) .nil))))) (.cons (.tup .nil) .nil))) (s.set 16 (some (.ref a))) (h ++ t ++ O.lst acc :: t2) = some (.tup [.tup [.int 0, .int 0, .ref a, .ref (h ++ t ++ O.lst acc :: t2).length], .tup []], h ++ t ++ O.lst acc :: t2 ++ [.lst []]) := by
      rw [ev.eq_4]
      simp only [evs, z1, ev_tup0]
      rfl
    simp only [st, wipeD, List.set_set, evT, z2]
    have hlen2 : (h ++ t ++ O.lst acc :: t2).length = (h ++ t).length + 1 + t2.length := by
      simp only [List.length_append, List.length_cons]
      omega
    rw [hlen2]
    simp only [elD, List.append_assoc, List.cons_append]) [] [] q (by rw [List.length_nil, hlen]; omega)
  rw [List.nil_append] at r1
  refine ⟨(h ++ t).length, t ++ (.lst ys :: ([] ++ T)), ?_, ys, ?_, ?_⟩
  · have := congrArg (fun z => match z with
      | some h2 => some (D.ref (h ++ t).length, h2)
      | none => none) r1
    simp only [List.append_assoc] at this ⊢
    exact this
  · rw [← List.append_assoc]
    exact get_mid
  · rw [← List.append_assoc]
    exact r2 ys
/-- the second one -/
theorem ev_lcB {es : Exs} {ls : List (List Int × List Int)} (c : MkPs cs es ls) (hl : ls.length ≤ 1000) (s : Sl) (hs : 17 < s.length) (h : Hh) : ∃ n t, ev cfg.G cs (.lc (.seq (.tup es)) (.tp (.cons (.nm 16) (.cons (.nm 17) .nil))) .yes (.tup (.cons (.tup (.cons (.con (.int 0)) (.cons (.con (.int 0)) (.cons (.var 16) (.cons (.lst (.cons (.var 17) .nil)) .nil))))) (.cons (.tup .nil) .nil))) [16, 17]) s h = some (.ref n, h ++ t) ∧ LE (h ++ t) n (ls.map fun l => ⟨0, 0, l.1, [l.2]⟩) := by
  obtain ⟨xs, t, e, q⟩ := c s h
  have hlen := q.len
  have hI : evI cfg.G cs (.seq (.tup es)) s h = some (xs, [], h ++ t) := by
    have : ev cfg.G cs (.tup es) s h = some (.tup xs, h ++ t) := by
      rw [ev.eq_4, e]
      simp only []
      rw [if_pos (by rw [hlen]; unfold Z.line; omega)]
    simp only [evI, this]
    rfl
  rw [ev.eq_20]
  simp only [hI]
  generalize hbody : (fun x h => match st cfg.G cs (.tp (.cons (.nm 16) (.cons (.nm 17) .nil))) x (wipeD s [16, 17]) h with
        | some (s2, h2) => match evT cfg.G cs .yes s2 h2 with
          | some (true, h3) => match ev cfg.G cs (.tup (.cons (.tup (.cons (.con (.int 0)) (.cons (.con (.int 0)) (.cons (.var 16) (.cons (.lst (.cons (.var 17) .nil)) .nil))))) (.cons (.tup .nil) .nil))) s2 h3 with
            | some (y, h4) => some (some y, h4)
            | none => none
          | some (false, h3) => some (none, h3)
          | none => none
        | none => none : D → Hh → Option (Option D × Hh)) = body
  obtain ⟨ys, T, r1, r2⟩ := lc17b (body := body) (h := h ++ t) (fun a b l acc t2 => by
    rw [← hbody]
    have hsl : ∃ s', s' = ((wipeD s [16, 17]).set 16 (some (D.ref a))).set 17 (some (.ref b)) := ⟨_, rfl⟩
    obtain ⟨s', hs'⟩ := hsl
    have l16 : s'[16]? = some (some (.ref a)) := by
      rw [hs', List.getElem?_set_ne (by decide), List.getElem?_set_self (by simp only [wipeD, List.length_set]; omega)]
    have l17 : s'[17]? = some (some (.ref b)) := by
      rw [hs', List.getElem?_set_self (by simp only [wipeD, List.length_set]; omega)]
    have w := ev_var (G := cfg.G) (cs := cs) (h := h ++ t ++ O.lst acc :: t2) l16
    have w2 : ev cfg.G cs (.lst (.cons (.var 17) .nil)) s' (h ++ t ++ O.lst acc :: t2) = _ := ev_lit (xs := [.ref b]) (by simp only [evs, ev_var l17]) (by simp)
    have z1 : ev cfg.G cs (.tup (.cons (.con (.int 0)) (.cons (.con (.int 0)) (.cons (.var 16) (.cons (.lst (.cons (.var 17) .nil)) .nil))))) s' (h ++ t ++ O.lst acc :: t2) = some (.tup [.int 0, .int 0, .ref a, .ref (h ++ t ++ O.lst acc :: t2).length], h ++ t ++ O.lst acc :: t2 ++ [.lst [.ref b]]) := by
      rw [ev.eq_4]
      simp only [evs, ev.eq_2, w, w2]
      rfl
    have z2 : ev cfg.G cs (.tup (.cons (.tup (.cons (.con (.int 0)) (.cons (.con (.int 0)) (.cons (.var 16) (.cons (.lst (.cons (.var 17) .nil)) .nil))))) (.cons (.tup .nil) .nil))) s' (h ++ t ++ O.lst acc :: t2) = some (.tup [.tup [.int 0, .int 0, .ref a, .ref (h ++ t ++ O.lst acc :: t2).length], .tup []], h ++ t ++ O.lst acc :: t2 ++ [.lst [.ref b]]) := by
      rw [ev.eq_4]
      simp only [evs, z1, ev_tup0]
      rfl
    simp only [st, sts, ← hs', evT, z2]
    have hlen2 : (h ++ t ++ O.lst acc :: t2).length = (h ++ t).length + 1 + t2.length := by
      simp only [List.length_append, List.length_cons]
      omega
    rw [hlen2]
    simp only [elD, List.append_assoc, List.cons_append]) [] [] q (by rw [List.length_nil, hlen]; omega)
  rw [List.nil_append] at r1
  refine ⟨(h ++ t).length, t ++ (.lst ys :: ([] ++ T)), ?_, ys, ?_, ?_⟩
  · have := congrArg (fun z => match z with
      | some h2 => some (D.ref (h ++ t).length, h2)
      | none => none) r1
    simp only [List.append_assoc] at this ⊢
    exact this
  · rw [← List.append_assoc]
    exact get_mid
  · rw [← List.append_assoc]
    exact r2 ys
end K14
end

-- M44
section
set_option Elab.async false
set_option linter.all false
set_option maxRecDepth 100000
set_option maxHeartbeats 2000000
namespace K14
open PySem L2 Z
theorem forL_ev {b : D → Sl → Hh → Option Out} {g : Gd} (I : List D → Sl → Hh → Prop) (hg : ∀ xs s h, I xs s h → gOk g h = true) (hb : ∀ x xs s h, I (x :: xs) s h → ∃ s' h', b x s h = some (.nx s' h') ∧ I xs s' h') : ∀ (xs : List D) (s : Sl) (h : Hh), I xs s h → ∃ s' h', forL g b xs s h = some (.nx s' h') ∧ I [] s' h'
  | [], s, h, i => ⟨s, h, by simp [forL, hg _ _ _ i], i⟩
  | x :: xs, s, h, i => by
    obtain ⟨s1, h1, e1, i1⟩ := hb x xs s h i
    obtain ⟨s2, h2, e2, i2⟩ := forL_ev I hg hb xs s1 h1 i1
    exact ⟨s2, h2, by simp [forL, hg _ _ _ i, e1, e2], i2⟩
theorem PW.big {a b : List (List Int)} (q : PW a b) : PW (a.map K14.big) (b.map K14.big) := by
  induction q with
  | nil => exact .nil
  | cons p _ ih => exact .cons (p.filter _) ih
theorem Same.big {a b : List (List Int)} (q : Same a b) : Same (a.map K14.big) (b.map K14.big) := by
  obtain ⟨ks, p, w⟩ := q
  exact ⟨ks.map K14.big, p.map _, w.big⟩
theorem big_perm {a b : List Int} (p : a.Perm b) : (big a).Perm (big b) := p.filter _
theorem least_same {hd cp : Int} {k l : List Int} {ms rs : List (List Int)} (p : k.Perm l) (s : Same ms rs) : leastN hd cp k ms = leastN hd cp l rs := by
  unfold leastN
  have e1 : sumX (ms.map big) = sumX (rs.map big) := s.big.sumM fun n => max 1 n
  rw [(big_perm p).length_eq, s.len, e1]
theorem shut_same {hd cp : Int} {k l : List Int} {ms rs : List (List Int)} (p : k.Perm l) (s : Same ms rs) (h : ShutP hd cp k ms) : ShutP hd cp l rs := by
  obtain ⟨a, b, c⟩ := h
  have e1 := (big_perm p).length_eq
  have e2 := (big_perm s.flat).length_eq
  have e3 := s.len
  refine ⟨a, b, ?_⟩
  rcases c with ⟨c1, c2⟩ | ⟨c1, c2, c3⟩
  · refine .inl ⟨?_, by omega⟩
    subst c1
    exact List.length_eq_zero_iff.mp e3.symm
  · refine .inr ⟨by omega, ?_, by omega⟩
    rw [c2] at e1
    exact List.length_eq_zero_iff.mp e1.symm
def sgs : List Sg := [⟨1, 0, [], []⟩, ⟨0, 2, [], []⟩, ⟨0, 0, [], [[], []]⟩, ⟨0, 1, [], [[]]⟩] ++ ([[2, 2, 2, 2], [3, 3, 3], [2, 4, 4], [2, 3, 6]].map fun l => ⟨0, 0, l, []⟩) ++ [⟨0, 1, [2, 2], []⟩] ++ ([([], [2, 2, 2, 2]), ([], [3, 3, 3]), ([], [2, 4, 4]), ([], [2, 3, 6]), ([2], [2, 2]), ([2, 2], []), ([3], [3]), ([4], [2])].map fun l => ⟨0, 0, l.1, [l.2]⟩)
structure Fine (s : Sg) : Prop where
  hc : (0 ≤ s.hd ∧ s.hd ≤ 3) ∧ (0 ≤ s.cp ∧ s.cp ≤ 3) ∧ (s.hd = 0 ∨ s.cp = 0)
  o1 : OkV s.l
  o2 : OkV s.rs.flatten
  l1 : s.l.length ≤ 4
  l2 : s.rs.length ≤ 2
  l3 : s.rs.flatten.length ≤ 4
  b0 : bal s.hd s.cp s.l s.rs = 0
  sh : ¬ (s.hd ≤ 0 ∧ s.cp ≤ 0 ∧ ((s.rs = [] ∧ ((big s.l).length = 1 ∨ (big s.l).length = 2)) ∨ (s.rs.length = 1 ∧ big s.l = [] ∧ ((big s.rs.flatten).length = 1 ∨ (big s.rs.flatten).length = 2))))
  n1 : 1 ≤ leastN s.hd s.cp s.l s.rs
  n2 : leastN s.hd s.cp s.l s.rs ≤ 60
theorem okV_dec (l : List Int) (h : (l.all fun i => decide (i = 1) || W9.contains i) = true) : OkV l := fun i hi => by
  have := List.all_eq_true.mp h i hi
  simp only [Bool.or_eq_true, decide_eq_true_eq, List.contains_iff_mem] at this
  exact this
theorem fine_all : ∀ s ∈ sgs, ((0 ≤ s.hd ∧ s.hd ≤ 3) ∧ (0 ≤ s.cp ∧ s.cp ≤ 3) ∧ (s.hd = 0 ∨ s.cp = 0)) ∧ (s.l.all fun i => decide (i = 1) || W9.contains i) = true ∧ (s.rs.flatten.all fun i => decide (i = 1) || W9.contains i) = true ∧ s.l.length ≤ 4 ∧ s.rs.length ≤ 2 ∧ s.rs.flatten.length ≤ 4 ∧ bal s.hd s.cp s.l s.rs = 0 ∧ ¬ (s.hd ≤ 0 ∧ s.cp ≤ 0 ∧ ((s.rs = [] ∧ ((big s.l).length = 1 ∨ (big s.l).length = 2)) ∨ (s.rs.length = 1 ∧ big s.l = [] ∧ ((big s.rs.flatten).length = 1 ∨ (big s.rs.flatten).length = 2)))) ∧ 1 ≤ leastN s.hd s.cp s.l s.rs ∧ leastN s.hd s.cp s.l s.rs ≤ 60 := by decide +kernel
theorem fine {s : Sg} (h : s ∈ sgs) : Fine s := by
  obtain ⟨a, b, c, d, e, f, g, i, j, k⟩ := fine_all s h
  exact ⟨a, okV_dec _ b, okV_dec _ c, d, e, f, g, i, j, k⟩
abbrev irTail : Stms := match ir33 with
  | .cons _ (.cons _ (.cons _ (.cons _ (.cons _ (.cons _ (.cons (.fo _ _ b) _)))))) => b
  | _ => .nil
theorem tail_ok (s : Sl) (h : Hh) (g : Sg) (a b : Nat) (ys : List D) (hw : s.length = 20) (h18 : s[18]? = some (some (.tup [.int g.hd, .int g.cp, .ref a, .ref b]))) (ga : h[a]? = some (.lst (zs g.l))) (gb : h[b]? = some (.lst ys)) (p : PWV h ys g.rs) (f : Fine g) :
    ∃ v t, exs cfg.G (S 23) irTail s h = some (.nx (s.set 12 (some v)) (h ++ t)) := by
  unfold irTail ir33
  simp only []
  have hf := f.hc
  have l1 := f.l1
  have l2 := f.l2
  have l3 := f.l3
  have oF : OkF g.hd g.cp g.l g.rs := okF_small (by omega) (by omega) hf.2.2 f.o1 f.o2 (by omega) (by omega) (by omega)
  have ee : evs cfg.G (S 23) (.cons (.bin .ix (.var 18) (.con (.int 0))) (.cons (.bin .ix (.var 18) (.con (.int 1))) (.cons (.bin .ix (.var 18) (.con (.int 2))) (.cons (.bin .ix (.var 18) (.con (.int 3))) .nil)))) s h = some ([.int g.hd, .int g.cp, .ref a, .ref b], h) := by
    have w := ev_var (G := cfg.G) (cs := S 23) (h := h) h18
    have e0 : ev cfg.G (S 23) (.bin .ix (.var 18) (.con (.int 0))) s h = some (.int g.hd, h) := ev_bin w ev_int rfl
    have e1 : ev cfg.G (S 23) (.bin .ix (.var 18) (.con (.int 1))) s h = some (.int g.cp, h) := ev_bin w ev_int rfl
    have e2 : ev cfg.G (S 23) (.bin .ix (.var 18) (.con (.int 2))) s h = some (.ref a, h) := ev_bin w ev_int rfl
    have e3 : ev cfg.G (S 23) (.bin .ix (.var 18) (.con (.int 3))) s h = some (.ref _, h) := ev_bin w ev_int rfl
    simp only [evs, e0, e1, e2, e3]
  obtain ⟨k, ms, pk, pm, e5⟩ := ev_new (n := 17) ee (.inr ⟨_, rfl, ga⟩) (.inr ⟨_, rfl, gb⟩) p oF
  have q : FullAt (h ++ [fullO g.hd g.cp k ms]) h.length g.hd g.cp k ms := get_last
  have ko : OkV k := f.o1.perm pk
  have mo : OkV ms.flatten := f.o2.perm pm.flat
  have kl := pk.length_eq
  have ml := pm.len
  have mf := pm.flat.length_eq
  have oK : OkF g.hd g.cp k ms := okF_small (by omega) (by omega) hf.2.2 ko mo (by omega) (by omega) (by omega)
  have bl : bal g.hd g.cp k ms = 0 := (bal_same pk pm).trans f.b0
  have sx : k.length + sumX ms ≤ 61 := by
    have e1 : sumX ms = sumX g.rs := pm.sumM fun n => max 1 n
    have : ∀ ms : List (List Int), sumX ms ≤ ms.length + ms.flatten.length := by
      intro ms
      induction ms with
      | nil => simp [sumX]
      | cons r ms ih =>
        simp only [sumX, List.map_cons, List.sum_cons, List.length_cons, List.flatten_cons, List.length_append] at ih ⊢
        omega
    have := this ms
    omega
  have hN : 1 ≤ leastN g.hd g.cp k ms := by rw [least_same pk pm]; exact f.n1
  have hM : leastN g.hd g.cp k ms ≤ 60 := by rw [least_same pk pm]; exact f.n2
  refine ⟨.ref h.length, [fullO g.hd g.cp k ms], exs_nx (ex_asg (i := 12) e5) (exs_nx (s2 := s.set 12 (some (.ref h.length))) (h2 := h ++ [fullO g.hd g.cp k ms]) ?_ (by simp only [exs]))⟩
  generalize h ++ [fullO g.hd g.cp k ms] = H at *
  have w12 : (s.set 12 (some (D.ref h.length)))[12]? = some (some (.ref h.length)) := by
    rw [List.getElem?_set_self (by omega)]
  have v12 := ev_var (G := cfg.G) (cs := S 23) (h := H) w12
  have c1 := full_kind q (by omega) (by omega) ko mo (by omega) (by omega) (by omega)
  rw [bl] at c1
  have c1' : evT cfg.G (S 23) (.val (.bin .ne (.call 18 (.cons (.var 12) .nil)) (.con (.str "flat")))) (s.set 12 (some (.ref h.length))) H = some (false, H) := by
    refine evT_val (ev_bin (ev_call1 v12 c1) ev_str ?_)
    have : kindS 0 = "flat" := rfl
    simp only [prim2, this, eqP_str can_f can_f, decide_true, Bool.not_true]
  obtain ⟨d, c2, fr⟩ := t_balance 18 h.length g.hd g.cp k ms H q ko.nice mo.nice (by omega) (by omega) (by omega) (by omega) (by omega)
  have hb : 2 * (2 - 2 * g.hd - g.cp - (ms.length : Int)) * 14280 - (2 * lost k + lost ms.flatten) = 0 := bl
  rw [hb] at fr
  obtain ⟨p', q', rfl, q0, gg, pq⟩ := fr
  have hp : p' = 0 := by
    rw [Int.zero_mul] at pq
    omega
  subst hp
  have hq : q' = 1 := by
    have : Nat.gcd (0 : Int).natAbs q'.natAbs = q'.natAbs := Nat.gcd_zero_left _
    omega
  subst hq
  have c2' : evT cfg.G (S 23) (.val (.bin .ne (.call 17 (.cons (.var 12) .nil)) (.tup (.cons (.con (.int 0)) (.cons (.con (.int 1)) .nil))))) (s.set 12 (some (.ref h.length))) H = some (false, H) := by
    have e : ev cfg.G (S 23) (.tup (.cons (.con (.int 0)) (.cons (.con (.int 1)) .nil))) (s.set 12 (some (.ref h.length))) H = some (row [0, 1], H) := by
      simp only [ev, evs]
      rfl
    refine evT_val (ev_bin (ev_call1 v12 c2) e ?_)
    have e2 : eqP H (.tup [.int 0, .int 1]) (row [0, 1]) = some true := eqP_rows (a := [0, 1]) (b := [0, 1])
    simp only [prim2, e2, Bool.not_true]
  obtain ⟨v, c3, sv⟩ := t_shut 15 h.length g.hd g.cp k ms H q oK
  have hv : v = false := by
    cases v with
    | false => rfl
    | true => exact absurd (shut_same pk pm (sv rfl)) f.sh
  subst hv
  have c3' : evT cfg.G (S 23) (.val (.call 19 (.cons (.var 12) .nil))) (s.set 12 (some (.ref h.length))) H = some (false, H) := evT_val (ev_call1 v12 c3)
  have c4 := t_leastN 14 h.length g.hd g.cp k ms H q oK sx hN
  have c4e : ev cfg.G (S 23) (.call 25 (.cons (.var 12) .nil)) (s.set 12 (some (.ref h.length))) H = some (.int (leastN g.hd g.cp k ms), H) := ev_call1 v12 c4
  have c4' : evT cfg.G (S 23) (.val (.bin .lt (.call 25 (.cons (.var 12) .nil)) (.con (.int 1)))) (s.set 12 (some (.ref h.length))) H = some (false, H) := by
    refine evT_val (ev_bin c4e ev_int ?_)
    simp only [prim2]
    rw [decide_eq_false (by omega)]
  have c5 := t_may 13 h.length g.hd g.cp k ms H q oK sx hN hM
  have c5' : evT cfg.G (S 23) (.not (.val (.call 26 (.cons (.var 12) (.cons (.call 25 (.cons (.var 12) .nil)) .nil))))) (s.set 12 (some (.ref h.length))) H = some (false, H) := by
    have e : evT cfg.G (S 23) (.val (.call 26 (.cons (.var 12) (.cons (.call 25 (.cons (.var 12) .nil)) .nil)))) (s.set 12 (some (.ref h.length))) H = some (true, H) := evT_val (ev_callE (by simp only [evs, v12, c4e]) c5)
    rw [evT.eq_5, e]
    rfl
  exact ex_ite (eT_or c1' (eT_or c2' (eT_or c3' (eT_or c4' c5')))) (by rfl)
end K14
end

-- M45
section
set_option Elab.async false
set_option linter.all false
set_option maxRecDepth 100000
set_option maxHeartbeats 2000000
namespace K14
open PySem L2 Z
abbrev irRest : Stms := match ir33 with
  | .cons _ (.cons _ (.cons _ r)) => r
  | _ => .nil
theorem l20_len {x0 x4 x5 x6 x7 x8 x9 x10 x11 x12 x13 x14 x15 x16 x17 x18 x19 : Option D} : (L20 x0 x4 x5 x6 x7 x8 x9 x10 x11 x12 x13 x14 x15 x16 x17 x18 x19).length = 20 := rfl
theorem rest_ok (s : Sl) (h : Hh) (hw : s.length = 20) : ∃ h', exs cfg.G (S 23) irRest s h = some (.rt (.bl true) h') := by
  unfold irRest ir33
  simp only []
  -- the first four
  obtain ⟨n1, t1, e1, q1⟩ := ev_les (cs := S 23) (mkEs_cons (g := ⟨1, 0, [], []⟩) mkL_nil mkR0 (mkEs_cons (g := ⟨0, 2, [], []⟩) mkL_nil mkR0 (mkEs_cons (g := ⟨0, 0, [], [[], []]⟩) mkL_nil (mkR_lst (mkRs_cons mkL_nil (mkRs_cons mkL_nil mkRs_nil)) (by decide)) (mkEs_cons (g := ⟨0, 1, [], [[]]⟩) mkL_nil (mkR_lst (mkRs_cons mkL_nil mkRs_nil) (by decide)) mkEs_nil)))) (by decide) s h
  have w1 : (s.set 15 (some (.ref n1))).length = 20 := by simpa using hw
  have v1 := ev_varset (G := cfg.G) (cs := S 23) (i := 15) (s := s) (v := .ref n1) (h := h ++ t1) (by omega)
  obtain ⟨n2, t2, e2, q2⟩ := ev_lcA (cs := S 23) (ls := [[2, 2, 2, 2], [3, 3, 3], [2, 4, 4], [2, 3, 6]]) (mkNs_cons mkL4 (mkNs_cons mkL3 (mkNs_cons mkL3 (mkNs_cons mkL3 mkNs_nil)))) (by decide) (s.set 15 (some (.ref n1))) (by omega) (h ++ t1)
  obtain ⟨n3, t3, e3, q3⟩ := ev_addE v1 e2 q1.app q2 (by decide)
  obtain ⟨n4, t4, e4, q4⟩ := ev_les (cs := S 23) (mkEs_cons (g := ⟨0, 1, [2, 2], []⟩) mkL2 mkR0 mkEs_nil) (by decide) (s.set 15 (some (.ref n1))) (h ++ t1 ++ t2 ++ t3)
  obtain ⟨n5, t5, e5, q5⟩ := ev_addE e3 e4 q3.app q4 (by decide)
  have ws : s.length = 20 := hw
  have v5 := ev_varset (G := cfg.G) (cs := S 23) (i := 15) (s := s.set 15 (some (.ref n1))) (v := .ref n5) (h := h ++ t1 ++ t2 ++ t3 ++ t4 ++ t5) (by omega)
  obtain ⟨n6, t6, e6, q6⟩ := ev_lcB (cs := S 23) (ls := [([], [2, 2, 2, 2]), ([], [3, 3, 3]), ([], [2, 4, 4]), ([], [2, 3, 6]), ([2], [2, 2]), ([2, 2], []), ([3], [3]), ([4], [2])]) (mkPs_cons mkL_nil mkL4 (mkPs_cons mkL_nil mkL3 (mkPs_cons mkL_nil mkL3 (mkPs_cons mkL_nil mkL3 (mkPs_cons mkL1 mkL2 (mkPs_cons mkL2 mkL_nil (mkPs_cons mkL1 mkL1 (mkPs_cons mkL1 mkL1 mkPs_nil)))))))) (by decide) ((s.set 15 (some (.ref n1))).set 15 (some (.ref n5))) (by simp only [List.length_set]; omega) (h ++ t1 ++ t2 ++ t3 ++ t4 ++ t5)
  obtain ⟨n7, t7, e7, q7⟩ := ev_addE v5 e6 q5.app q6 (by decide)
  generalize h ++ t1 ++ t2 ++ t3 ++ t4 ++ t5 ++ t6 ++ t7 = H at *
  have q8 : LE H n7 sgs := q7
  obtain ⟨xs, g1, g2⟩ := q8
  have hx : xs.length = 17 := g2.len
  obtain ⟨s0, hs0⟩ : ∃ s0, s0 = ((s.set 15 (some (.ref n1))).set 15 (some (.ref n5))).set 15 (some (.ref n7)) := ⟨_, rfl⟩
  have w0 : s0.length = 20 := by
    rw [hs0]
    simpa using hw
  have s15 : s0[15]? = some (some (.ref n7)) := by
    rw [hs0, List.getElem?_set_self (by simp only [List.length_set]; omega)]
  have hI : evI cfg.G (S 23) (.seq (.var 15)) s0 H = some (xs, [(n7, .lst xs)], H) := by
    simp only [evI, ev_var s15, itSeq, g1]
  obtain ⟨s', h', f1, _, f2, ⟨tt, rfl⟩, _⟩ := forL_ev (g := [(n7, .lst xs)]) (b := fun x s h => match st cfg.G (S 23) (.tp (.cons (.nm 18) (.cons (.nm 19) .nil))) x s h with
        | some (s2, h2) => exs cfg.G (S 23) irTail s2 h2
        | none => none) (fun ys s h => s.length = 20 ∧ s[15]? = some (some (.ref n7)) ∧ (∃ t, h = H ++ t) ∧ ∃ ss, Els h ys ss ∧ ∀ g ∈ ss, g ∈ sgs) (fun ys s h I => by
      obtain ⟨_, _, ⟨t, rfl⟩, _⟩ := I
      refine gOk_app ?_
      simp [gOk, g1]) (fun x ys s h I => by
      obtain ⟨a1, a2, ⟨t, rfl⟩, ss, a4, a5⟩ := I
      cases a4 with
      | cons el els =>
        rename_i g ss
        obtain ⟨a, b, zs', rfl, ga, gb, p⟩ := el
        obtain ⟨v, t', r⟩ := tail_ok ((s.set 18 (some (.tup [.int g.hd, .int g.cp, .ref a, .ref b]))).set 19 (some (.tup []))) (H ++ t) g a b zs' (by simpa using a1) (by
          rw [List.getElem?_set_ne (by decide), List.getElem?_set_self (by omega)]) ga gb p (fine (a5 g List.mem_cons_self))
        refine ⟨((s.set 18 (some (.tup [.int g.hd, .int g.cp, .ref a, .ref b]))).set 19 (some (.tup []))).set 12 (some v), H ++ t ++ t', ?_, ?_, ?_, ⟨t ++ t', by rw [List.append_assoc]⟩, ss, els.app, fun g' hg => a5 g' (List.mem_cons_of_mem _ hg)⟩
        · simp only [elD, st, sts]
          exact r
        · simpa using a1
        · rw [List.getElem?_set_ne (by decide), List.getElem?_set_ne (by decide), List.getElem?_set_ne (by decide)]
          exact a2) xs s0 H ⟨w0, s15, ⟨[], by simp⟩, sgs, g2, fun _ h => h⟩
  have e9 : ex cfg.G (S 23) (.fo (.seq (.var 15)) (.tp (.cons (.nm 18) (.cons (.nm 19) .nil))) irTail) s0 H = some (.nx s' (H ++ tt)) := by
    simp only [ex, hI]
    exact f1
  have e10 : ev cfg.G (S 23) (.bin .eq (.app .len (.cons (.var 15) .nil)) (.con (.int 17))) s' (H ++ tt) = some (.bl true, H ++ tt) := by
    refine ev_bin (ev_app1 (r := some (.int 17, H ++ tt)) (ev_var f2) ?_) ev_int ?_
    · simp only [prim1, app_at (t := tt) g1, hx]
      rfl
    · simp only [prim2, eqP_int]
      rfl
  refine ⟨H ++ tt, exs_nx (ex_asg (i := 15) e1) (exs_nx (ex_asg (i := 15) e5) (exs_nx (s2 := s0) (h2 := H) ?_ (exs_nx e9 (exs_rt (ex_ret e10)))))⟩
  rw [hs0]
  exact ex_asg (i := 15) e7
theorem fn33 (n vs h) : (S (n+1)).fn 33 vs h = Z.run cfg.G (S n) d33.fn vs h := rfl
theorem hsem (ns : List Int) : ∃ h', (S 24).fn 33 [.rl (ns.map .int)] [] = some (.bl true, h') := by
  obtain ⟨h0, p1, p2, p3⟩ := t_pen 22 ns
  have x1 : ex cfg.G (S 23) (.asg (.nm 1) (.call 27 (.cons (.var 0) .nil))) (some (.rl (ns.map .int)) :: List.replicate 19 none) [] = _ := ex_asg (i := 1) (ev_call1 (ev_var rfl) p1)
  have a1 := ev_lit (G := cfg.G) (cs := S 23) (es := .cons (.con (.int 1)) (.cons (.con (.int 2)) (.cons (.con (.int 2)) (.cons (.con (.int 2)) (.cons (.con (.int 3)) (.cons (.con (.int 3)) (.cons (.con (.int 4)) (.cons (.con (.int 5)) (.cons (.con (.int 6)) .nil))))))))) (s := some (.rl (ns.map .int)) :: some (.ref 0) :: List.replicate 18 none) (h := h0) (xs := zs near) (by simp only [evs, ev.eq_2]; rfl) (by decide)
  have a2 := ev_lit (G := cfg.G) (cs := S 23) (es := .cons (.con (.int 1)) (.cons (.con (.int 2)) (.cons (.con (.int 7)) (.cons (.con (.int 60)) (.cons (.con (.int 119)) (.cons (.con (.int 120)) .nil)))))) (s := some (.rl (ns.map .int)) :: some (.ref 0) :: List.replicate 18 none) (h := h0 ++ [.lst (zs near)]) (xs := zs far) (by simp only [evs, ev.eq_2]; rfl) (by decide)
  have lh : (h0 ++ [O.lst (zs near)]).length = 4 := by simp [p3]
  rw [p3] at a1
  rw [lh] at a2
  have b0 : Base (h0 ++ [.lst (zs near)] ++ [.lst (zs far)]) 0 := ⟨p2.app.app, app_at (by rw [← p3]; exact get_last), by rw [← lh]; exact get_last⟩
  have a3 : ev cfg.G (S 23) (.tup (.cons (.lst (.cons (.con (.int 1)) (.cons (.con (.int 2)) (.cons (.con (.int 2)) (.cons (.con (.int 2)) (.cons (.con (.int 3)) (.cons (.con (.int 3)) (.cons (.con (.int 4)) (.cons (.con (.int 5)) (.cons (.con (.int 6)) .nil)))))))))) (.cons (.lst (.cons (.con (.int 1)) (.cons (.con (.int 2)) (.cons (.con (.int 7)) (.cons (.con (.int 60)) (.cons (.con (.int 119)) (.cons (.con (.int 120)) .nil))))))) .nil))) (some (.rl (ns.map .int)) :: some (.ref 0) :: List.replicate 18 none) h0 = some (.tup [.ref 3, .ref 4], h0 ++ [.lst (zs near)] ++ [.lst (zs far)]) := by
    rw [ev.eq_4]
    simp only [evs, a1, a2]
    rfl
  have x2 := ex_tp2 (i := 2) (j := 3) a3
  generalize h0 ++ [O.lst (zs near)] ++ [.lst (zs far)] = h1 at *
  have hI : evI cfg.G (S 23) (.rng1 (.con (.int 30))) (L20 (some (.rl (ns.map .int))) none none none none none none none none none none none none none none none none) h1 = some (rangeD 0 30, [], h1) := by
    simp only [evI, ev.eq_2]
    rfl
  obtain ⟨s', h', f1, f2⟩ := forL_ev (g := []) (b := fun x s h => match st cfg.G (S 23) (.nm 4) x s h with
        | some (s2, h2) => exs cfg.G (S 23) irBody s2 h2
        | none => none) (fun ys s h => ys.length ≤ 30 ∧ (∃ x0 x4 x5 x6 x7 x8 x9 x10 x11 x12 x13 x14 x15 x16 x17 x18 x19, s = L20 x0 x4 x5 x6 x7 x8 x9 x10 x11 x12 x13 x14 x15 x16 x17 x18 x19) ∧ Base h (27 * (30 - (ys.length : Int)))) (fun _ _ _ _ => rfl) (fun x ys s h I => by
      obtain ⟨i0, ⟨x0, x4, x5, x6, x7, x8, x9, x10, x11, x12, x13, x14, x15, x16, x17, x18, x19, rfl⟩, i2⟩ := I
      simp only [List.length_cons] at i0
      rw [List.length_cons] at i2
      obtain ⟨y5, y6, y7, y8, y9, y10, y11, y12, y13, y14, h', r, b⟩ := body_ok x0 (some x) x5 x6 x7 x8 x9 x10 x11 x12 x13 x14 x15 x16 x17 x18 x19 h _ i2 (by omega) (by omega)
      refine ⟨_, h', ?_, by omega, ⟨x0, some x, y5, y6, y7, y8, y9, y10, y11, y12, y13, y14, x15, x16, x17, x18, x19, rfl⟩, ?_⟩
      · simp only [st]
        exact r
      · have : 27 * (30 - ((ys.length + 1 : Nat) : Int)) + 27 = 27 * (30 - (ys.length : Int)) := by omega
        rw [this] at b
        exact b) (rangeD 0 30) (L20 (some (.rl (ns.map .int))) none none none none none none none none none none none none none none none none) h1 ⟨by rw [rangeD_len]; decide, ⟨_, _, _, _, _, _, _, _, _, _, _, _, _, _, _, _, _, rfl⟩, by
        rw [rangeD_len]
        exact b0⟩
  have x3 : ex cfg.G (S 23) (.fo (.rng1 (.con (.int 30))) (.nm 4) irBody) (L20 (some (.rl (ns.map .int))) none none none none none none none none none none none none none none none none) h1 = some (.nx s' h') := by
    simp only [ex, hI]
    exact f1
  obtain ⟨_, ⟨y0, y4, y5, y6, y7, y8, y9, y10, y11, y12, y13, y14, y15, y16, y17, y18, y19, rfl⟩, _⟩ := f2
  obtain ⟨h'', r⟩ := rest_ok (L20 y0 y4 y5 y6 y7 y8 y9 y10 y11 y12 y13 y14 y15 y16 y17 y18 y19) h' rfl
  refine ⟨(gc [] (.bl true, h'')).2, ?_⟩
  rw [fn33]
  have hg : gc [] (.bl true, h'') = (.bl true, (gc [] (.bl true, h'')).2) := by
    unfold gc
    simp [below]
    split <;> rfl
  exact run_rt (f := d33.fn) (vs := [.rl (ns.map .int)]) rfl (exs_nx x1 (exs_nx x2 (exs_nx x3 r))) hg
end K14
end

-- End14
section
set_option Elab.async false
set_option linter.all false
set_option maxRecDepth 100000
set_option maxHeartbeats 0
open PySem PySem.W PySem.Calls PyProof.Rows
theorem PySem.Challenge.cw_otherdiagonal_k14_whole_the_round_the_fl_holds : PySem.Challenge.rw_otherdiagonal_k14_whole_the_round_the_fl.Holds := by
  w_on; o_law
  refine HandSHeadRun.head_imp (r := OpenLaw.row PySem.Challenge.rw_otherdiagonal_k14_whole_the_round_the_fl) (q := view (OpenLaw.row PySem.Challenge.rw_otherdiagonal_k14_whole_the_round_the_fl).prog [0, 51]) (H := K14.hk) (ob := K14.ob) (M := 6000) (loose := K14.loose) (d := HandSHeadRun.topDef (OpenLaw.row PySem.Challenge.rw_otherdiagonal_k14_whole_the_round_the_fl).prog 51) (kwd := []) K14.ob_eq
    K14.run (by kernel_rfl) (by kernel_rfl) (by kernel_rfl) (by rfl) (by first | assumption | decide +kernel) (by decide +kernel) ⟨rfl, rfl, rfl, rfl, rfl, by decide +kernel⟩ ?hw ?hc
  case hw => w_witness2
  case hc =>
    refine L2.walk_ofE (l := PySem.Challenge.rw_otherdiagonal_k14_whole_the_round_the_fl) (n := 63) (k := 25) (x := "script") (CX := L2.CX0) rfl (by decide) (by kernel_rfl) ⟨rfl, by decide, by decide⟩ ?F (fun _ _ _ _ z => z)
    intro w mg fa h Y G hmg0
    have hmg : mg ("law" : PySem.Str) = some (.ref fa) := by
      have e : (HandSHeadRun.topDef (OpenLaw.row PySem.Challenge.rw_otherdiagonal_k14_whole_the_round_the_fl).prog 51).name = ("law" : PySem.Str) := by kernel_rfl
      rw [← e]
      exact hmg0
    exact Z.law_at (c := K14.cfg) (li := 33) (n := 24) (most := 63) (dl := K14.d33) K14.cpure K14.cks K14.bds rfl rfl (by decide) rfl (fun ns _ => K14.hsem ns) Y G hmg
end
