import PyProof.Rows.All
import Wide.All
import OpenK.AllK
import Wide.FinOn
import KE.SortData
import KE.KDictSum
import KE.KDictCopyH
import HandS.ForMost
import HandS.SortKw
import HandS.TupAny
import HandS.Zip
import HandS.Wide
import HandS.Style
import HandS.Flow
import HandS.Walk
import HandS.IsInst
import HandS.Deep
import HandS.Evl
import PySem.Challenge.RW_oneweight_k65_greatest_rows_of_any_list
set_option Elab.async false
set_option linter.all false
set_option maxRecDepth 100000
set_option maxHeartbeats 4000000
namespace OW
open PySem PySem.Spec PyProof.Rows L2

/-! ### tuples of ints, sorted -/
def tupD (r : List Int) : PyData := .tuple (r.map .int)
theorem tup_le : PySem.W.dataLe (β := List Int) false tupD = fun p q => decide (p ≤ q) := by
  funext p q
  show (!PySem.W.dataLt (.tuple (q.map .int)) (.tuple (p.map .int))) = _
  rw [PySem.W.dataLt_tuple]
  show (!PySem.W.rowLt (q.map .int) (p.map .int)) = _
  rw [PySem.W.dataLt_ints]
  by_cases h : q < p
  · have h' : ¬ p ≤ q := fun r => List.not_lt.mpr r h
    simp [h, h']
  · have h' : p ≤ q := List.not_lt.mp h
    simp [h, h']
theorem tup_ge : PySem.W.dataLe (β := List Int) true tupD = fun p q => decide (q ≤ p) := by
  funext p q
  show (!PySem.W.dataLt (.tuple (p.map .int)) (.tuple (q.map .int))) = _
  rw [PySem.W.dataLt_tuple]
  show (!PySem.W.rowLt (p.map .int) (q.map .int)) = _
  rw [PySem.W.dataLt_ints]
  by_cases h : p < q
  · have h' : ¬ q ≤ p := fun r => List.not_lt.mpr r h
    simp [h, h']
  · have h' : q ≤ p := List.not_lt.mp h
    simp [h, h']
theorem tup_alike (p q : List Int) : PySem.W.alike (tupD p) (tupD q) = true := by
  show PySem.W.alike (.tuple (p.map .int)) (.tuple (q.map .int)) = true
  rw [PySem.W.alike]
  exact PySem.W.alike_ints p q
theorem tup_depth (p : List Int) : (tupD p).depth ≤ 1 := by
  show (PyData.tuple (p.map .int)).depth ≤ 1
  rw [PyData.depth, PySem.W.depth_ints]
  omega
section
variable {prog : Program} {w : World} {A : Around} {E : Value → Shared → Prop} {s : Shared}
open PySem.W in
theorem sortsAt_tups {vs : List Value} {rs : List (List Int)} {d : Nat} (e : EachIs (fun v r => ∃ as, Reads s.heap v (tupD r) as) vs rs) (hd : ∀ r ∈ rs, r.length = d) (hu : A.units + 1 < cLine) :
    SortsAt prog w A s (dataKind s.heap (rs.map tupD)) vs := by
  have hal : AllAlike (rs.map tupD) := AllAlike.of tup_alike
  have e' : EachIs (fun v d => ∃ as, Reads s.heap v d as) vs (rs.map tupD) := each_map (R := fun v d => ∃ as, Reads s.heap v d as) tupD e
  have hb : ∀ x, x ∈ rs.map tupD → A.units + x.depth < cLine := fun x hx => by
    obtain ⟨r, _, rfl⟩ := List.mem_map.mp hx
    have := tup_depth r
    omega
  cases d with
  | succ d =>
    refine SortsAt.data e' hal (.inl fun x hx => ?_) hb
    obtain ⟨r, hr, rfl⟩ := List.mem_map.mp hx
    have hl := hd r hr
    cases r with
    | nil => cases hl
    | cons a t => exact ⟨_, _, rfl⟩
  | zero =>
    have h0 : ∀ x, x ∈ rs.map tupD → x = .tuple [] := fun x hx => by
      obtain ⟨r, hr, rfl⟩ := List.mem_map.mp hx
      have hl := hd r hr
      cases r with
      | nil => rfl
      | cons a t => cases hl
    refine ⟨fun v hv => ?_, oneType', ?_, fun h2 E Q hq => ?_⟩
    · obtain ⟨x, hx, as, r⟩ := e'.left v hv
      exact ⟨_, dataKind_some hal hx r⟩
    · intro E x y a b Q ha hb' hq
      obtain ⟨dx, as, hdx, ra, rfl⟩ := dataKind_inv ha
      obtain ⟨dy, as', hdy, rb, rfl⟩ := dataKind_inv hb'
      obtain rfl := h0 _ hdx
      obtain rfl := h0 _ hdy
      have hq' : Q (dataLt (.tuple []) (.tuple [])) s := hq
      have ef : dataLt (.tuple []) (.tuple []) = false := by rw [dataLt_tuple]; exact lex_irrefl _
      rw [ef] at hq'
      cases ra with
      | @tuple l o xs n _ _ g1 g2 g3 g4 =>
        cases rb with
        | @tuple l' o' xs' n' _ _ k1 k2 k3 k4 =>
          have n1 : xs = #[] := by
            have := SeqAt.ReadsAll.length _ _ _ g4
            have : xs.size = 0 := by simpa using this
            exact Array.eq_empty_of_size_eq_zero this
          have n2 : xs' = #[] := by
            have := SeqAt.ReadsAll.length _ _ _ k4
            have : xs'.size = 0 := by simpa using this
            exact Array.eq_empty_of_size_eq_zero this
          subst n1 n2
          obtain ⟨cls, dd, data, sl⟩ := o
          obtain ⟨cls2, dd2, data2, sl2⟩ := o'
          simp only at g2 g3 k2 k3
          subst g2 g3 k2 k3
          rw [keyLt'_oneType, oneLt'_eq]
          simp only [if_true]
          refine wpAny_bind (wpAny_cRoomFor (by omega) ?_)
          refine wpAny_bind (wpAny_callSpecialIfBound?_slot (T := "tuple") ⟨_, g1, rfl⟩ F.slot_tuple_lt (call_meets F.slot_tuple_lt ⟨_, g1, rfl⟩ F.entry_tuple_lt (F.args_tuple_lt_2 _ _)
            (SeqAt.tuple_ltAt l l' #[] #[] n n' dd dd2 sl sl2 (fun _ => true) (fun _ => true)) ⟨g1, k1, fun j j1 _ => absurd j1 (by simp), fun j j1 _ => absurd j1 (by simp), ?_⟩))
          exact wpAny_truthy_bool (by simpa [SeqAt.firstLt] using hq')
    · obtain ⟨v₁, v₂, rest, rfl⟩ : ∃ v₁ v₂ rest, vs = v₁ :: v₂ :: rest := by
        match vs, h2 with
        | [], h2 => simp at h2
        | [_], h2 => simp at h2
        | v₁ :: v₂ :: rest, _ => exact ⟨v₁, v₂, rest, rfl⟩
      have hT : ∀ v ∈ v₁ :: v₂ :: rest, Looks (model prog w) s.heap (typeOf v) (Value.type "tuple") := fun v hv => by
        obtain ⟨x, hx, as, r⟩ := e'.left v hv
        obtain rfl := h0 _ hx
        exact looks_reads r
      rw [keyKind'_eq, List.mapM_toArray, map_eq_pure_bind]
      refine wpAny_bind (wpAny_bind (kas_mapM (r := none) _ (fun v hv Q' hq => ?_) (wpAny_pure ?_)))
      · rw [kas_first_eq]
        refine wpAny_bind ((hT v hv).here ?_)
        rw [if_neg (by decide)]
        obtain ⟨x, hx, as, r⟩ := e'.left v hv
        obtain rfl := h0 _ hx
        cases r with
        | @tuple l o xs n _ _ g1 g2 g3 g4 =>
          have n1 : xs = #[] := by
            have := SeqAt.ReadsAll.length _ _ _ g4
            have : xs.size = 0 := by simpa using this
            exact Array.eq_empty_of_size_eq_zero this
          subst n1
          refine wpAny_bind (listItems_at g1 g3 ?_)
          exact wpAny_pure hq
      · rw [if_neg (by simp), if_neg (by simp)]
        rw [oneTypeOnly'_eq, List.mapM_toArray, map_eq_pure_bind]
        refine wpAny_bind (wpAny_bind (wpAny_bind (kas_mapM (r := Value.type "tuple") _ (fun v hv Q' hq => (hT v hv).here hq) (wpAny_pure ?_))))
        have hall : ((List.map (fun _ => Value.type "tuple") (v₁ :: v₂ :: rest)).toArray.all fun x => x == Value.type "tuple") = true := by
          simp only [List.all_toArray, List.all_map, List.all_eq_true]
          intro _ _
          exact beq_self_eq_true _
        have h0 : (List.map (fun _ => Value.type "tuple") (v₁ :: v₂ :: rest)).toArray[0]? = some (Value.type "tuple") := by simp
        rw [h0]
        simp only [hall, if_true]
        exact wpAny_pure (wpAny_pure hq)
end
end OW

set_option Elab.async false
set_option linter.all false
set_option maxRecDepth 100000
set_option maxHeartbeats 4000000
namespace OW
open PySem PySem.Spec PyProof.Rows L2

/-! ### rows: values that stand for tuples of ints -/
def Tp (K : PySem.W.Frag) (H : Hp) (v : V) (r : List Int) : Prop := ∃ a, v = .ref a ∧ H a = some (.tup (r.map V.int))
abbrev Rows (K : PySem.W.Frag) (H : Hp) (vs : List V) (rs : List (List Int)) : Prop := Paired (Tp K H) vs rs
theorem same_t {K : PySem.W.Frag} {H H' : Hp} {a : Addr} {xs : List V} (e : Same H H') (h : SqT K H a xs) : SqT K H' a xs := by
  rcases h with (h | ⟨o, h⟩) | h
  · exact .inl (.inl (e _ _ h))
  · exact .inl (.inr ⟨o, e _ _ h⟩)
  · exact .inr h
theorem Tp.mono {K : PySem.W.Frag} {H H' : Hp} {v : V} {r : List Int} (e : Same H H') (h : Tp K H v r) : Tp K H' v r := by
  obtain ⟨a, ev, h⟩ := h
  exact ⟨a, ev, e _ _ h⟩
theorem Rows.mono {K : PySem.W.Frag} {H H' : Hp} {vs : List V} {rs : List (List Int)} (e : Same H H') (h : Rows K H vs rs) : Rows K H' vs rs :=
  Paired.mapP h fun _ _ q => q.mono e
theorem dpAll_ints {K : PySem.W.Frag} {H : Hp} : ∀ r : List Int, DpAll K H (r.map V.int) (r.map PyData.int)
  | [] => .nil
  | x :: r => .cons (.int x) (dpAll_ints r)
theorem Tp.dp {K : PySem.W.Frag} {H : Hp} {v : V} {r : List Int} (h : Tp K H v r) : Dp K H v (tupD r) := by
  obtain ⟨a, rfl, h⟩ := h
  exact .tup (SqT.of h) (dpAll_ints r)
theorem Rows.dp {K : PySem.W.Frag} {H : Hp} : ∀ {vs : List V} {rs : List (List Int)}, Rows K H vs rs → DpAll K H vs (rs.map tupD)
  | _, _, .nil => .nil
  | _, _, .cons h t => .cons h.dp (Rows.dp t)
theorem Paired.len {α β : Type} {F : α → β → Prop} : ∀ {l : List α} {m : List β}, Paired F l m → l.length = m.length
  | _, _, .nil => rfl
  | _, _, .cons _ t => congrArg (· + 1) (Paired.len t)
theorem Rows.get {K : PySem.W.Frag} {H : Hp} : ∀ {vs : List V} {rs : List (List Int)} {i : Nat} {v : V}, Rows K H vs rs → vs[i]? = some v → ∃ r, rs[i]? = some r ∧ Tp K H v r
  | _, _, _, _, .nil, e => by simp at e
  | _, _, 0, _, .cons h _, e => by
    have e' := Option.some.inj e
    subst e'
    exact ⟨_, rfl, h⟩
  | _, _, i + 1, _, .cons _ t, e => Rows.get (i := i) t e
theorem Rows.snoc {K : PySem.W.Frag} {H : Hp} {vs : List V} {rs : List (List Int)} {v : V} {r : List Int} (h : Rows K H vs rs) (q : Tp K H v r) : Rows K H (vs ++ [v]) (rs ++ [r]) := Paired.snoc h q
theorem Rows.append {K : PySem.W.Frag} {H : Hp} : ∀ {vs ws : List V} {rs ss : List (List Int)}, Rows K H vs rs → Rows K H ws ss → Rows K H (vs ++ ws) (rs ++ ss)
  | _, _, _, _, .nil, q => q
  | _, _, _, _, .cons h t, q => .cons h (Rows.append t q)
theorem Rows.reverse {K : PySem.W.Frag} {H : Hp} : ∀ {vs : List V} {rs : List (List Int)}, Rows K H vs rs → Rows K H vs.reverse rs.reverse
  | _, _, .nil => .nil
  | _, _, .cons h t => by
    rw [List.reverse_cons, List.reverse_cons]
    exact Rows.snoc (Rows.reverse t) h
theorem Rows.drop {K : PySem.W.Frag} {H : Hp} : ∀ {vs : List V} {rs : List (List Int)} (n : Nat), Rows K H vs rs → Rows K H (vs.drop n) (rs.drop n)
  | _, _, 0, h => h
  | _, _, _ + 1, .nil => .nil
  | _, _, n + 1, .cons _ t => Rows.drop n t
theorem Rows.take {K : PySem.W.Frag} {H : Hp} : ∀ {vs : List V} {rs : List (List Int)} (n : Nat), Rows K H vs rs → Rows K H (vs.take n) (rs.take n)
  | _, _, 0, _ => .nil
  | _, _, _ + 1, .nil => .nil
  | _, _, n + 1, .cons h t => .cons h (Rows.take n t)

/-! ### data: equality and repr of rows -/
theorem eqv_tup (p q : List Int) : PyData.eqv (tupD p) (tupD q) = decide (p = q) := by
  have h : ∀ p q : List Int, PyData.eqvAll (p.map .int) (q.map .int) = decide (p = q) := by
    intro p
    induction p with
    | nil =>
      intro q
      cases q with
      | nil => simp [PyData.eqvAll]
      | cons y q => simp [PyData.eqvAll]
    | cons x p ih =>
      intro q
      cases q with
      | nil => simp [PyData.eqvAll]
      | cons y q =>
        show PyData.eqvAll (.int x :: p.map .int) (.int y :: q.map .int) = _
        rw [PySem.W.eqv_all_cons, ih q]
        by_cases e : x = y <;> by_cases e2 : p = q <;> simp [PyData.eqv, e, e2]
  show PyData.eqv (.tuple (p.map .int)) (.tuple (q.map .int)) = _
  rw [PyData.eqv]
  exact h p q
theorem eqv_rows (rs ss : List (List Int)) : PyData.eqv (.list (rs.map tupD)) (.list (ss.map tupD)) = decide (rs = ss) := by
  rw [PyData.eqv]
  induction rs generalizing ss with
  | nil =>
    cases ss with
    | nil => simp [PyData.eqvAll]
    | cons y q => simp [PyData.eqvAll]
  | cons x p ih =>
    cases ss with
    | nil => simp [PyData.eqvAll]
    | cons y q =>
      show PyData.eqvAll (tupD x :: p.map tupD) (tupD y :: q.map tupD) = _
      rw [PySem.W.eqv_all_cons, ih q, eqv_tup]
      by_cases e : x = y <;> by_cases e2 : p = q <;> simp [e, e2]
theorem canLay_ints : ∀ r : List Int, PyData.canLayAll0 (r.map .int) = true
  | [] => by simp [PyData.canLayAll0]
  | x :: r => by
    show PyData.canLayAll0 (.int x :: r.map .int) = true
    rw [PyData.canLayAll0, canLay_ints r]
    simp [PyData.canLay0]
theorem canLay_tup (r : List Int) : (tupD r).canLay0 = true := by
  show (PyData.tuple (r.map .int)).canLay0 = true
  rw [PyData.canLay0]
  exact canLay_ints r
theorem canLay_rows : ∀ rs : List (List Int), PyData.canLayAll0 (rs.map tupD) = true
  | [] => by simp [PyData.canLayAll0]
  | x :: r => by
    show PyData.canLayAll0 (tupD x :: r.map tupD) = true
    rw [PyData.canLayAll0, canLay_rows r, canLay_tup]
    rfl
theorem depth_rows : ∀ rs : List (List Int), PyData.depthAll (rs.map tupD) ≤ 1
  | [] => by simp [PyData.depthAll]
  | x :: r => by
    show PyData.depthAll (tupD x :: r.map tupD) ≤ 1
    rw [PyData.depthAll]
    have h1 := tup_depth x
    have h2 := depth_rows r
    omega
theorem shaped_tup (r : List Int) : SeqAt.shaped (tupD r) = true := by
  unfold SeqAt.shaped
  rw [canLay_tup, Bool.true_and]
  have := tup_depth r
  exact decide_eq_true (by omega)
theorem shaped_rows (rs : List (List Int)) : SeqAt.shaped (.list (rs.map tupD)) = true := by
  unfold SeqAt.shaped
  rw [PyData.canLay0, canLay_rows, Bool.true_and, PyData.depth]
  have := depth_rows rs
  exact decide_eq_true (by omega)
end OW

set_option Elab.async false
set_option linter.all false
set_option maxRecDepth 100000
set_option maxHeartbeats 4000000
namespace OW
open PySem PySem.Spec PyProof.Rows L2

/-! ### sorted over rows -/
def rSrt (K : PySem.W.Frag) : List V → Hp → VK → Prop := fun vs H Q => ∃ (a : Addr) (xs : List V) (rs : List (List Int)) (d : Nat), vs = [V.ref a] ∧ SqL K H a xs ∧ Rows K H xs rs ∧ (∀ r ∈ rs, r.length = d) ∧
  ∀ (ys : List V) (p : Addr), Rows K H ys (rs.mergeSort fun p q => decide (p ≤ q)) → H p = none → Q (.ref p) (upd H p (.lst ys))
def rSrtDR (K : PySem.W.Frag) : List V → List V → Hp → VK → Prop := fun vs zs H Q => ∃ (a : Addr) (kvs : List (List Key × V)) (rs : List (List Int)) (d : Nat), vs = [V.ref a] ∧ zs = [.bl true] ∧ H a = some (.dT kvs) ∧ kvs.map (·.1) = rs.map (fun r => r.map Sum.inl) ∧
  (∀ r ∈ rs, r.length = d) ∧ ∀ (ys : List V) (p : Addr), Rows K H ys (rs.mergeSort fun p q => decide (q ≤ p)) → H p = none → Q (.ref p) (upd H p (.lst ys))
section
variable {X : Cx}
/-- the values and what they stand for -/
theorem each_rows {pins : List (Addr × Obj)} {σ : L2.St} {H : Hp} {s : Shared} (I : Inv X pins σ H s) : ∀ {vs : List V} {rs : List (List Int)} {us : List Value}, Rows X.K H vs rs → Vals vs us →
    PySem.W.EachIs (fun u r => (∃ v, RelV v u ∧ Tp X.K H v r) ∧ ∃ as, Reads s.heap u (tupD r) as) us rs
  | _, _, _, .nil, .nil => .nil
  | _, _, _, .cons h t, .cons r tr => .cons ⟨⟨_, r, h⟩, Dp.reads I _ _ _ h.dp r⟩ (each_rows I t tr)
theorem rows_each {H : Hp} : ∀ {us : List Value} {rs : List (List Int)}, PySem.W.EachIs (fun u r => ∃ v, RelV v u ∧ Tp X.K H v r) us rs → ∃ vs, Vals vs us ∧ Rows X.K H vs rs
  | _, _, .nil => ⟨[], .nil, .nil⟩
  | _, _, .cons ⟨v, r, h⟩ t => by
    obtain ⟨vs, h1, h2⟩ := rows_each t
    exact ⟨v :: vs, .cons r h1, .cons h h2⟩
theorem cr_srt (hu : X.A.units + 64 < cLine) : CallR X (.builtin "sorted") (rSrt X.K) := by
  intro pins s σ H vs us Q I r h
  obtain ⟨a, xs, rs, d, rfl, hs, hr, hd, q⟩ := h
  obtain rfl := Vals.ref1 r
  obtain ⟨its, rv, hl, hz⟩ := I.list hs
  have e := each_rows I hr rv
  have e1 := e.mono fun _ _ h => h.1
  have e2 := e.mono fun _ _ h => h.2
  have kp : ∀ b o, s.heap.get? b = some o → (PySem.W.sortingHeap (PySem.W.copyHeap s.heap its) (s.heap.objs.size + 1) its).get? b = some o := fun _ _ => PySem.W.sorting_copy_old
  have e3 : PySem.W.EachIs (fun u r => ∃ as, Reads (PySem.W.sortingHeap (PySem.W.copyHeap s.heap its) (s.heap.objs.size + 1) its) u (tupD r) as) its rs := e2.mono fun _ _ ⟨as, r⟩ => ⟨as, PyProof.Rows.Reads.keeps kp r⟩
  have lenI : its.length = rs.length := e.length
  have hzI : its.length ≤ sizeLine := by rw [← rv.length]; exact hz
  refine PySem.W.sorted_vals hl.isList (sortsAt_tups (s := { s with heap := PySem.W.sortingHeap (PySem.W.copyHeap s.heap its) (s.heap.objs.size + 1) its }) e3 hd (by show X.A.units + 1 + 1 + 1 < cLine; omega)) hzI ?_
  have e4 := PySem.W.sortVals_data (enc := tupD) false e1 e3 (PySem.W.AllAlike.of tup_alike)
  rw [tup_le] at e4
  obtain ⟨ys, k1, k2⟩ := rows_each e4
  obtain ⟨ep, he'⟩ := PyProof.Rows.sortedAll_at s.heap its (PySem.W.sortVals (PySem.W.dataKind (PySem.W.sortingHeap (PySem.W.copyHeap s.heap its) (s.heap.objs.size + 1) its) (rs.map tupD)) false its its).toArray
  have hlen : ys.length ≤ sizeLine := by
    have q1 := k1.length
    have q2 := PySem.W.sortVals_length (κ := PySem.W.dataKind (PySem.W.sortingHeap (PySem.W.copyHeap s.heap its) (s.heap.objs.size + 1) its) (rs.map tupD)) false (ks := its) (vs := its) rfl
    omega
  exact ⟨.ref _, upd H (s.heap.objs.size + 1) (.lst ys), I.laid (t' := s.toks) (fun _ _ => PyProof.Rows.sortedAll_old) (Nat.le_succ _) ⟨hlen, _, ep, k1, he'⟩, rfl, q _ _ k2 (I.hok.fresh (Nat.le_succ _))⟩
theorem each_dict {pins : List (Addr × Obj)} {σ : L2.St} {H : Hp} {s : Shared} (I : Inv X pins σ H s) : ∀ {kvs : List (List Key × V)} {xs : List (List Key × Addr × Value)} {rs : List (List Int)},
    Paired (fun (p : List Key × V) (q : List Key × Addr × Value) => p.1 = q.1 ∧ H q.2.1 = some (.tup (p.1.map kV)) ∧ RelV p.2 q.2.2) kvs xs → kvs.map (·.1) = rs.map (fun r => r.map Sum.inl) →
    Paired (fun (q : List Key × Addr × Value) r => Tp X.K H (.ref q.2.1) r) xs rs
  | _, _, rs, .nil, e => by
    cases rs with
    | nil => exact .nil
    | cons _ _ => cases e
  | _, _, rs, .cons h t, e => by
    cases rs with
    | nil => cases e
    | cons r rs =>
      rw [List.map_cons, List.map_cons] at e
      injection e with e1 e2
      refine .cons ⟨_, rfl, ?_⟩ (each_dict I t e2)
      have h2 := h.2.1
      rw [e1] at h2
      have e3 : (r.map (Sum.inl : Int → Key)).map kV = r.map V.int := by
        rw [List.map_map]
        rfl
      rw [e3] at h2
      exact h2
theorem cr_srtDR (hu : X.A.units + 64 < cLine) (hcalm : X.calm = true) : CallRK X (.builtin "sorted") [Str.ofString "reverse"] (rSrtDR X.K) := by
  intro pins s σ H vs zs us ws Q I r rz h
  obtain ⟨a, kvs, rs, d, rfl, rfl, ha, hk, hd, q⟩ := h
  obtain rfl := Vals.ref1 r
  obtain ⟨w1, rfl, e1⟩ := vals1 rz
  obtain rfl : w1 = Value.bool true := e1
  obtain ⟨hz, hsm, xs, hp, o, es, ep, ho, hex, hdat, hes, hnd⟩ := I.hok a _ ha
  have hraw : s.heap.DictRaw a es ep := ⟨o, ho, hex, hdat⟩
  have hrows := each_dict I hp hk
  have lx : es.size = xs.length := by
    have := congrArg List.length hes
    simpa using this
  have lk : kvs.length = xs.length := Paired.len hp
  have lr : xs.length = rs.length := Paired.len hrows
  have hn : es.size ≤ sizeLine := by omega
  refine PyProof.Rows.call_function_entry_kw PyProof.Rows.kind_sorted PyProof.Rows.plain_sorted PyProof.Rows.entry_sorted (PyProof.Rows.args_sorted_rev _ _) ?_
  unfold Builtin.«sorted»
  refine wpAny_bind (m := checkCount "sorted" 1 1 _) (wpAny_pure ?_)
  refine wpAny_bind (PySem.W.kdu_collect (A := X.A.in1) (PySem.KdlSrc.rawDict (prog := X.prog) (w := X.w) (es := es) (ep := ep) hsm) (I.ok.hd hcalm) hraw hn fun h' tk acc hkp hacc => ?_)
  have I1 : Inv X pins σ H { s with heap := h', toks := tk } := I.kept hkp
  have lenA : acc.toList.length = rs.length := by
    rw [Array.length_toList, hacc.1]
    omega
  have hv : acc.toList = xs.map (fun q => Value.ref q.2.1) := by
    refine List.ext_getElem? fun i => ?_
    by_cases hi : i < acc.toList.length
    · obtain ⟨v, ev⟩ : ∃ v, acc.toList[i]? = some v := ⟨_, List.getElem?_eq_getElem hi⟩
      obtain ⟨hi2, e⟩ := hacc.2 i v (by rw [← Array.getElem?_toList]; exact ev)
      have e5 : es.toList[i]? = some es[i] := by
        rw [Array.getElem?_toList]
        exact Array.getElem?_eq_getElem hi2
      rw [hes, List.getElem?_map] at e5
      rw [ev, List.getElem?_map]
      cases e6 : xs[i]? with
      | none =>
        rw [e6] at e5
        cases e5
      | some y =>
        rw [e6] at e5
        have e7 := Option.some.inj e5
        rw [e, ← e7]
        rfl
    · rw [List.getElem?_eq_none (by omega), List.getElem?_eq_none (by rw [List.length_map]; omega)]
  have e : PySem.W.EachIs (fun u r => (∃ v, RelV v u ∧ Tp X.K H v r) ∧ ∃ as, Reads h' u (tupD r) as) acc.toList rs := by
    rw [hv]
    have go : ∀ {xs : List (List Key × Addr × Value)} {rs : List (List Int)}, Paired (fun (q : List Key × Addr × Value) r => Tp X.K H (.ref q.2.1) r) xs rs →
        PySem.W.EachIs (fun u r => (∃ v, RelV v u ∧ Tp X.K H v r) ∧ ∃ as, Reads h' u (tupD r) as) (xs.map fun q => Value.ref q.2.1) rs := by
      intro xs rs hh
      induction hh with
      | nil => exact .nil
      | @cons q r _ _ g _ ih => exact .cons ⟨⟨V.ref q.2.1, (rfl : Value.ref q.2.1 = Value.ref q.2.1), g⟩, Dp.reads I1 _ (V.ref q.2.1) _ g.dp (rfl : Value.ref q.2.1 = Value.ref q.2.1)⟩ ih
    exact go hrows
  refine wpAny_bind (wpAny_newList ?_ (by omega))
  have hoL : (h'.push (seqObj "list" acc.toList.toArray 0)).get? h'.objs.size = some (seqObj "list" acc.toList.toArray 0) := Heap.get?_push_size _ rfl
  have kp1 : ∀ b o, h'.get? b = some o → (h'.push (seqObj "list" acc.toList.toArray 0)).get? b = some o := fun b o g => Heap.get?_push_of_some _ g
  have kp2 : ∀ b o, h'.get? b = some o → (PySem.W.sortingHeap (h'.push (seqObj "list" acc.toList.toArray 0)) h'.objs.size acc.toList).get? b = some o := fun b o g =>
    PySem.W.sortingHeap_old (Nat.ne_of_lt (Heap.lt_size g)) (kp1 b o g)
  have f1 := e.mono fun _ _ h => h.1
  have f2 := e.mono fun _ _ h => h.2
  have f3 : PySem.W.EachIs (fun u r => ∃ as, Reads (PySem.W.sortingHeap (h'.push (seqObj "list" acc.toList.toArray 0)) h'.objs.size acc.toList) u (tupD r) as) acc.toList rs := f2.mono fun _ _ ⟨as, r⟩ => ⟨as, PyProof.Rows.Reads.keeps kp2 r⟩
  have f4 := PySem.W.sortVals_data (enc := tupD) true f1 f3 (PySem.W.AllAlike.of tup_alike)
  rw [tup_ge] at f4
  obtain ⟨ys, k1, k2⟩ := rows_each f4
  obtain ⟨c, hc⟩ := PyProof.Rows.sortedHeap_at (vs := acc.toList) (out := (PySem.W.sortVals (PySem.W.dataKind (PySem.W.sortingHeap (h'.push (seqObj "list" acc.toList.toArray 0)) h'.objs.size acc.toList) (rs.map tupD)) true acc.toList acc.toList).toArray) hoL
  have hlen : ys.length ≤ sizeLine := by
    have q1 := k1.length
    have q2 := PySem.W.sortVals_length (κ := PySem.W.dataKind (PySem.W.sortingHeap (h'.push (seqObj "list" acc.toList.toArray 0)) h'.objs.size acc.toList) (rs.map tupD)) true (ks := acc.toList) (vs := acc.toList) rfl
    omega
  show wpAny _ _ _ _ _ { s with heap := h'.push (seqObj "list" acc.toList.toArray 0), toks := tk }
  refine wpAny_bind (wpAny_holding (PyProof.Rows.wpAny_call_entry_kw PyProof.Rows.slot_list_sort ⟨_, hoL, rfl⟩ PyProof.Rows.entry_list_sort
    (PySem.W.list_sort_rev_vals (s := { s with heap := h'.push (seqObj "list" acc.toList.toArray 0), toks := tk }) (κ := PySem.W.dataKind (PySem.W.sortingHeap (h'.push (seqObj "list" acc.toList.toArray 0)) h'.objs.size acc.toList) (rs.map tupD)) hoL
      (sortsAt_tups (s := { s with heap := PySem.W.sortingHeap (h'.push (seqObj "list" acc.toList.toArray 0)) h'.objs.size acc.toList, toks := tk }) f3 hd (by show X.A.units + 1 + 1 + 1 < cLine; omega)) (by omega) ⟨_, rfl, wpAny_pure ⟨_, rfl, ?_⟩⟩)
    (PyProof.Rows.args_list_sort_rev _ _)))
  refine ⟨.ref h'.objs.size, upd H h'.objs.size (.lst ys), I1.laid (t' := tk) (fun b o g => ?_) (Nat.le_refl _) ⟨hlen, _, c, k1, hc⟩, rfl, q _ _ k2 (I1.hok.fresh (Nat.le_refl _))⟩
  exact (PyProof.Rows.sortedHeap_old (Nat.ne_of_lt (Heap.lt_size g)) (by rw [PyProof.Rows.size_push']; exact Nat.lt_succ_of_lt (Heap.lt_size g))).trans (kp1 b o g)
end
end OW

set_option Elab.async false
set_option linter.all false
set_option maxRecDepth 100000
set_option maxHeartbeats 4000000
namespace OW
open PySem PySem.Spec PyProof.Rows L2

/-! ### repr of data (no repr runs around) -/
def rReprD (K : PySem.W.Frag) : List V → Hp → VK → Prop := fun vs H Q => ∃ (a : Addr) (d : PyData), vs = [V.ref a] ∧ Dp K H (.ref a) d ∧ d.showable = true ∧ d.hasDict = false ∧ d.depth ≤ 60 ∧ d.shown.length ≤ sizeLine ∧ Q (.str d.shown) H
section
variable {X : Cx}
theorem cr_reprD (hg : X.A.guards = some []) (hu : X.A.units + 64 < cLine) : CallR X (.builtin "repr") (rReprD X.K) := by
  intro pins s σ H vs us Q I r h
  obtain ⟨a, d, rfl, hd, h1, h2, h3, h4, q⟩ := h
  obtain rfl := Vals.ref1 r
  obtain ⟨as, rd⟩ := Dp.reads I d (V.ref a) (Value.ref a) hd rfl
  exact repr_of_reads' rd h1 (PyData.noDict_hsm h2) hg (by omega) (fun _ _ e => e) (fun h' u tk hk => ⟨.str d.shown, H, I.kept hk, ⟨u, rfl⟩, q⟩) h4
end

/-! ### a def that runs where no repr runs (the law itself) -/
structure TopOk (P : Program) (w : World) (K : PySem.W.Frag) (mg : Str → Option Value) (base : Heap) (k : Nat) (f : Addr) (fd : FuncData) (ps : List Str) (sp : Sp) : Prop where
  run : ∀ (A : Around) (outer : List Env) (s : Shared) (H : Hp) (args : Args) (us : List Value) (vs : List V) (Q : VK) (E : XK), A.guards = some [] → Room k A → Env0 P w K mg base A outer s H → BindsTo s fd args (ps.zip us) → Vals vs us → sp vs H Q E →
    codeAny (model P w) A (.call (.ref f) args) (CR CX0 outer P w H s Q E) s
section
variable {P : Program} {w : World} {K : PySem.W.Frag} {mg : Str → Option Value} {base : Heap}
theorem topOk_of {x qual : Str} {st : Stmt} {f : Addr} {fd : FuncData} {N ps : List Str} {k : Nat} {sp : Sp} (F : Fun K x qual st f fd) (S : FnScope N ps (defScope st)) (len : ∀ vs H Q E, sp vs H Q E → vs.length = ps.length)
    (hbody : ∀ (cdv : Value) (A : Around) (outer : List Env) (s : Shared) (H : Hp) (vs : List V) (Q : VK) (E : XK), A.guards = some [] → Room k (A.deeper (envOfC qual (defScope st) s.heap.objs.size f cdv)) → sp vs H Q E →
      ∃ t, PSs (cxOf CX0 P w K mg base N qual (defScope st) f cdv A outer s H E).nox (defBody st) t ∧ t { nx := fun _ H' => Q .non H', rt := Q } (start N vs) H) :
    TopOk P w K mg base (k + 1) f fd ps sp := by
  obtain ⟨oc, od, kV, doc, pm, an, cdv, ct, osl, rfl, lk, hcd⟩ := F.ex
  constructor
  intro A outer s H args us vs Q E hg hr e0 hb r hsp
  have X0 : K.In s.heap := e0.mod.kin.keeps (fun b o e => (e0.bs b o e).1)
  have L0 : s.heap.NoLimit := e0.mod.nolimit.keeps (fun b o e => (e0.bs b o e).1)
  have hl := len _ _ _ _ hsp
  obtain ⟨t, ht, hq⟩ := hbody cdv A outer s H vs Q E hg (hr.deeper _) hsp
  refine codeAny_call_function hr.depth (X0 f _ lk) rfl S.co S.gen rfl (PySem.W.codeRec_of X0 hcd) (hb _ _ _ _ ?_)
  refine wpAny_newFunctionEnv_cells S.kind ?_ (fun env he s1 x => ?_)
  · intro y hy
    have m := S.par y.1 (List.of_mem_zip (a := y.1) (b := y.2) hy).1
    rcases m with m | m
    · exact Or.inl m
    · exact Or.inr ⟨m, PySem.W.cellsFrom_some _ _ _ (Or.inl m)⟩
  · subst he
    refine ⟨L0.keeps x.toInCall.keep, codeAny_func ?_⟩
    have I := inv_start (CX := CX0) (P := P) (w := w) (mg := mg) (base := base) (E := E) S hr.hd e0 hl r x
    refine wpAny_mono (ht.nox.run [] s1 (start N vs) H _ I hq) ?_ (fun _ _ z => z)
    intro fl s' hs
    match fl, hs with
    | .ret u, ⟨v, σ', H', J, rv, q⟩ => exact ⟨v, H', J.os, J.bare, J.base, J.hok, rv, q⟩
    | .next, ⟨σ', H', J, q⟩ => exact ⟨V.non, H', J.os, J.bare, J.base, J.hok, (rfl : Value.none = Value.none), q⟩
    | .brk, ⟨_, _, _, q⟩ => exact q.elim
    | .cont, ⟨_, _, _, q⟩ => exact q.elim

/-- the script alone is tracked, and known, unless it is the module's own -/
def scriptH (K : PySem.W.Frag) (a : Addr) (o : Obj) (ns : List Int) : Hp := fun b => if b = a ∧ K.lookup a = none then some (.frz o (.lst (ns.map V.int))) else none
theorem scriptH_some {K : PySem.W.Frag} {a b : Addr} {o : Obj} {ns : List Int} {u : HO} (h : scriptH K a o ns b = some u) : b = a ∧ K.lookup a = none ∧ u = .frz o (.lst (ns.map V.int)) := by
  unfold scriptH at h
  split at h
  · rename_i hc
    exact ⟨hc.1, hc.2, (Option.some.inj h).symm⟩
  · cases h
theorem scriptH_hid {K : PySem.W.Frag} {a b : Addr} {oa o : Obj} {ns : List Int} {hp : Heap} (e : hp.get? b = some o) (h : b ≠ a ∨ K.lookup a ≠ none) : (hidT hp (scriptH K a oa ns)).get? b = some o := by
  refine hidT_get e ?_
  unfold scriptH
  exact if_neg fun q => h.elim (fun z => z q.1) fun z => z q.2
theorem law_top {mb : Str → Option Value} {k : Nat} {fa a : Addr} {fd : FuncData} {x : Str} {sp : Sp} {s₁ : Shared} {vs : List Value} {ns : List Int}
    (KX : K.In s₁.heap) (hns : s₁.heap.Ns mainGlobals mg) (hb : s₁.heap.Ns builtinsNs mb) (hbb : ∀ x : Str, x ≠ "__name__" → mb x = bootBuiltins x) (hlim : s₁.heap.NoLimit) (hg : s₁.gens = #[])
    (ha : s₁.heap.get? a = some { cls := .type "list", data := .seq vs.toArray }) (hi : IntsAre vs ns) (hl : ns.length ≤ sizeLine) (hr : Room k callerA)
    (F : ∀ base : Heap, K.In base → base.Ns mainGlobals mg → TopOk P w K mg base k fa fd [x] sp) (hbind : ∀ (s : Shared) (u : Value), BindsTo s fd ⟨[u], []⟩ [(x, u)])
    (hsp : ∀ H : Hp, SqL K H a (ns.map V.int) → sp [.ref a] H (fun v _ => v = .bl true) E0) :
    codeAny (model P w) callerA (.call (.ref fa) ⟨[.ref a], []⟩) (fun r s' => r = .ok (.ret (.bool true)) ∧ OldK s₁.heap s'.heap ∧ s'.os = s₁.os ∧ AllBare s'.gens) s₁ := by
  have rv := vals_ints hi
  let o : Obj := { cls := .type "list", data := .seq vs.toArray }
  let H : Hp := scriptH K a o ns
  have dne : ∀ {b : Addr} {m : Str → Option Value}, s₁.heap.Ns b m → b ≠ a := fun {b m} ⟨ob, es, ep, e, d, _⟩ q => by
    rw [q, ha] at e
    cases e
    cases d
  have ns' : ∀ {b : Addr} {m : Str → Option Value}, s₁.heap.Ns b m → (hidT s₁.heap H).Ns b m := fun {b m} hN => by
    have hne := dne hN
    obtain ⟨ob, es, ep, e, r⟩ := hN
    exact ⟨ob, es, ep, scriptH_hid e (.inl hne), r⟩
  have kin : K.In (hidT s₁.heap H) := fun b ob e => scriptH_hid (KX b ob e) (by
    by_cases q : b = a
    · refine .inr fun z => ?_
      rw [q, z] at e
      cases e
    · exact .inl q)
  have hS : SqL K H a (ns.map V.int) := by
    cases q : K.lookup a with
    | none => exact .inl (.inr ⟨o, if_pos ⟨rfl, q⟩⟩)
    | some oa =>
      have e := KX a oa q
      rw [ha] at e
      cases e
      exact .inr ⟨_, vs.toArray, _, q, rfl, rfl, rfl, by rw [List.size_toArray, hi.length]; exact hl, by simpa using rv⟩
  have hok : HOk P w H s₁.heap := fun b u e => by
    obtain ⟨rfl, _, rfl⟩ := scriptH_some e
    exact ⟨ha, by rw [List.length_map]; exact hl, vs, _, rv, ha⟩
  have e0 : Env0 P w K mg (hidT s₁.heap H) callerA [] s₁ H := by
    refine ⟨rfl, ⟨kin, ns' hns, ⟨mb, ns' hb, hbb⟩, ?_⟩, fun b ob e => of_hidT e, Nat.le_of_eq (hidT_size _ _), trivial, ?_, hok, .of_eq hg⟩
    · obtain ⟨mc, h1, h2⟩ := hlim
      exact ⟨mc, ns' h1, h2⟩
    · intro b hb'
      cases hb'
  refine codeAny_mono ((F _ kin (ns' hns)).run callerA [] s₁ H ⟨[.ref a], []⟩ [.ref a] [.ref a] (fun v _ => v = .bl true) E0 rfl hr e0 (hbind s₁ (.ref a)) (.cons rfl .nil) (hsp H hS)) ?_
  intro r s' h
  match r, h with
  | .ok (.ret u), ⟨v, H', os, bare, un, hok', r', q⟩ =>
    have q : v = .bl true := q
    subst q
    have r' : u = Value.bool true := r'
    subst r'
    refine ⟨rfl, OldK.of_keep fun b ob e => ?_, os, bare⟩
    cases q : H b with
    | none => exact un.keep b ob e q (fun z => by cases z) (fun z => by cases z)
    | some u =>
      obtain ⟨rfl, _, rfl⟩ := scriptH_some q
      have g := (hok' _ _ (un.frzs _ _ _ q)).1
      rw [ha] at e
      cases e
      exact g
/-- the goal behind k_head, from the law's promise -/
theorem walk_top {l : PySem.W.OpenLaw} {n k : Nat} {q : Program} {loose : List Str} {XP : (Str → Option Value) → Heap → Prop} {YP : World → Heap → Prop} {d : DefRec} {K : Params → PySem.W.Frag} {sp : World → Sp} {x : Str}
    (hn : l.most = some n) (hn2 : n ≤ sizeLine) (hdf : d.params.defaults = []) (hr : Room k callerA) (hY : ∀ (w : World) (h : Heap), YP w h → (K w.params).In h)
    (F : ∀ (w : World) (mg : Str → Option Value) (fa : Addr) (h : Heap), (K w.params).In h → h.Ns mainGlobals mg → mg d.name = some (.ref fa) →
      ∃ fd : FuncData, (∀ (s : Shared) (u : Value), BindsTo s fd ⟨[u], []⟩ [(x, u)]) ∧ ∀ base : Heap, (K w.params).In base → base.Ns mainGlobals mg → TopOk l.prog w (K w.params) mg base k fa fd [x] (sp w))
    (hsp : ∀ (w : World) (H : Hp) (a : Addr) (ns : List Int), ns.length ≤ n → SqL (K w.params) H a (ns.map V.int) → sp w [.ref a] H (fun v _ => v = .bl true) E0) :
    PySem.W.WalkO q loose XP YP l.row.toRowW d [] (fun f vs => PySem.call f vs) := by
  refine Att.attach_call hn hdf ?_
  intro w s₀ s₁ mg mb fa o pm cd doc a vs ns G Y ho hd hcd hmg hobj hints hlen hg
  obtain ⟨fd, hb, hF⟩ := F w mg fa _ (hY w _ Y) G.T.g hmg
  exact law_top (hY w _ Y) G.T.g G.T.b G.T.builtins G.T.nolimit hg hobj hints (Nat.le_trans hlen hn2) hr hF hb fun H hS => hsp w H a ns hlen hS
end

/-! ### comprehensions whose elements only make things -/
theorem Same.upd_new {H H' : Hp} {p : Addr} {o : HO} (s : Same H H') (h : H p = none) : Same H (upd H' p o) := fun b u e => by
  rw [upd_ne (ne_of_none e h)]
  exact s b u e
theorem lc_map {J : It} {n : Nat} {Y : Nat → Hp → V → Hp → Prop} {g : TG} {te : TE} {vs : List Nat} {σ : L2.St} {H1 : Hp} {D : Addr} {Qd : Hp → Prop} (vals : Nat → V) (hn : n ≤ 100000) (w : Walk J n (fun H => Same H1 H) Y) (hD : H1 D = none)
    (hs : ∀ i x H H', i < n → Same H1 H → Y i H x H' → ∀ Q' : VK, (∀ H4, Same H H4 → Q' (vals i) H4) → g x (wipe σ vs) H' fun σ2 H2 => wipe σ2 vs = wipe σ vs ∧ te σ2 H2 Q')
    (hd : ∀ H, Same H1 H → H D = some (.lst ((List.range n).map vals)) → Qd H) :
    ∃ W : Nat → Nat → Hp → Prop, (∃ m, W 0 m (upd H1 D (.lst []))) ∧ ∀ i m H, W i m H →
      (J.stop i H ∧ Qd H) ∨ (J.go i H ∧ ∃ Nx : Hp → Prop, (∀ H', Nx H' → ∃ m', m' < m ∧ W (i + 1) m' H') ∧ ∀ x H', J.yld i H x H' → g x (wipe σ vs) H' fun σ2 H2 => wipe σ2 vs = wipe σ vs ∧ tYes σ2 H2 fun b H3 =>
        if b = true then te σ2 H3 fun y H4 => ∃ acc, H4 D = some (.lst acc) ∧ acc.length < sizeLine ∧ Nx (upd H4 D (.lst (acc ++ [y]))) else Nx H3) := by
  refine lc_it (Qd := Qd) w (fun i H => Same H1 H ∧ H D = some (.lst ((List.range i).map vals))) ⟨Same.upd_new (Same.refl _) hD, upd_same⟩ (fun i H _ h => h.1) (fun i x H H' hi h y => ?_) (fun H h => hd H h.1 h.2)
  obtain ⟨h1, h2⟩ := h
  refine hs i x H H' hi h1 y _ fun H4 s4 => ⟨_, s4 _ _ h2, ?_, Same.upd_new (Same.trans h1 s4) hD, ?_⟩
  · rw [List.length_map, List.length_range]
    exact Nat.lt_of_le_of_lt (Nat.le_of_lt (Nat.lt_of_lt_of_le hi hn)) (by decide)
  · rw [upd_same, List.range_succ, List.map_append]
    rfl
theorem walk_zipT {K : PySem.W.Frag} {a b : Addr} {xs ys : List V} {n : Nat} (hn : n = min xs.length ys.length) : Walk (RZ.ItzT K a b) n (fun H => SqT K H a xs ∧ SqT K H b ys) (YPair (fun i => xs[i]?) (fun i => ys[i]?)) := by
  subst hn
  refine ⟨fun i _ hi q => ⟨xs, ys, xs[i]'(by omega), ys[i]'(by omega), q.1, q.2, List.getElem?_eq_getElem _, List.getElem?_eq_getElem _⟩, fun _ q => ⟨xs, ys, q.1, q.2, by omega⟩, fun i H v H' _ q y => ?_⟩
  obtain ⟨T, x, z, h1, h2, h3, h4, h5⟩ := y
  exact ⟨T, x, z, h1, h2, h3, h4 xs q.1, h5 ys q.2⟩
/-- a walk of two kinds of thing -/
theorem pi_or {X : Cx} {tg it : Expr} {w1 w2 : L2.TI} (h1 : PI X tg it w1) (h2 : PI X tg it w2) : PI X tg it (fun σ H R => w1 σ H R ∨ w2 σ H R) := by
  constructor
  intro pins s σ H R I h
  rcases h with h | h
  · exact h1.run pins s σ H R I h
  · exact h2.run pins s σ H R I h
end OW

set_option Elab.async false
set_option linter.all false
set_option maxRecDepth 100000
set_option maxHeartbeats 4000000
namespace K65
open PySem L2 OW
def top (i : Nat) : Stmt := PySem.Challenge.pw_oneweight_k65_greatest_rows_of_any_list.main.body.getD i (.Pass ⟨0, 0, 0, 0⟩)
abbrev slies_below : Stmt := top 1
abbrev Nlies_below : List Str := ["row", "other", "number", "most"]
theorem sclies_below : FnScope Nlies_below ["row", "other"] (defScope slies_below) := ⟨rfl, rfl, rfl, by decide +kernel, rfl, by decide +kernel, by decide +kernel⟩
abbrev sgreatest_rows : Stmt := top 2
abbrev Ngreatest_rows : List Str := ["rows", "known", "row", "greatest", "other"]
theorem scgreatest_rows : FnScope Ngreatest_rows ["rows"] (defScope sgreatest_rows) := ⟨rfl, rfl, rfl, by decide +kernel, rfl, by decide +kernel, by decide +kernel⟩
abbrev s_law_box : Stmt := top 4
abbrev N_law_box : List Str := ["script", "cells", "seed", "cell"]
theorem sc_law_box : FnScope N_law_box ["script"] (defScope s_law_box) := ⟨rfl, rfl, rfl, by decide +kernel, rfl, by decide +kernel, by decide +kernel⟩
abbrev s_law_take : Stmt := top 5
abbrev N_law_take : List Str := ["box", "many", "told"]
theorem sc_law_take : FnScope N_law_take ["box", "many"] (defScope s_law_take) := ⟨rfl, rfl, rfl, by decide +kernel, rfl, by decide +kernel, by decide +kernel⟩
abbrev s_law_pick : Stmt := top 6
abbrev N_law_pick : List Str := ["box", "rows"]
theorem sc_law_pick : FnScope N_law_pick ["box", "rows"] (defScope s_law_pick) := ⟨rfl, rfl, rfl, by decide +kernel, rfl, by decide +kernel, by decide +kernel⟩
abbrev s_law_drawn : Stmt := top 7
abbrev N_law_drawn : List Str := ["box", "many", "size", "wide", "low", "rows", "turn", "way", "row", "old", "at", "k"]
theorem sc_law_drawn : FnScope N_law_drawn ["box"] (defScope s_law_drawn) := ⟨rfl, rfl, rfl, by decide +kernel, rfl, by decide +kernel, by decide +kernel⟩
abbrev s_law_covered : Stmt := top 8
abbrev N_law_covered : List Str := ["row", "rows", "other", "worse", "more", "one", "two"]
theorem sc_law_covered : FnScope N_law_covered ["row", "rows"] (defScope s_law_covered) := ⟨rfl, rfl, rfl, by decide +kernel, rfl, by decide +kernel, by decide +kernel⟩
abbrev s_law_due : Stmt := top 9
abbrev N_law_due : List Str := ["rows", "told", "row"]
theorem sc_law_due : FnScope N_law_due ["rows"] (defScope s_law_due) := ⟨rfl, rfl, rfl, by decide +kernel, rfl, by decide +kernel, by decide +kernel⟩
abbrev slaw : Stmt := top 10
abbrev Nlaw : List Str := ["script", "box", "rows", "due", "start", "handed", "told", "row"]
theorem sclaw : FnScope Nlaw ["script"] (defScope slaw) := ⟨rfl, rfl, rfl, by decide +kernel, rfl, by decide +kernel, by decide +kernel⟩
/-- what the top has left: where the defs stand, the built-in names that are still free -/
structure Txt (K : PySem.W.Frag) (mg : Str → Option Value) where
  alies_below : Addr
  dlies_below : FuncData
  flies_below : Fun K "lies_below" "lies_below" slies_below alies_below dlies_below
  glies_below : mg "lies_below" = some (.ref alies_below)
  blies_below : Binds K dlies_below ["row", "other"] []
  agreatest_rows : Addr
  dgreatest_rows : FuncData
  fgreatest_rows : Fun K "greatest_rows" "greatest_rows" sgreatest_rows agreatest_rows dgreatest_rows
  ggreatest_rows : mg "greatest_rows" = some (.ref agreatest_rows)
  bgreatest_rows : Binds K dgreatest_rows ["rows"] []
  a_law_box : Addr
  d_law_box : FuncData
  f_law_box : Fun K "_law_box" "_law_box" s_law_box a_law_box d_law_box
  g_law_box : mg "_law_box" = some (.ref a_law_box)
  b_law_box : Binds K d_law_box ["script"] []
  a_law_take : Addr
  d_law_take : FuncData
  f_law_take : Fun K "_law_take" "_law_take" s_law_take a_law_take d_law_take
  g_law_take : mg "_law_take" = some (.ref a_law_take)
  b_law_take : Binds K d_law_take ["box", "many"] []
  a_law_pick : Addr
  d_law_pick : FuncData
  f_law_pick : Fun K "_law_pick" "_law_pick" s_law_pick a_law_pick d_law_pick
  g_law_pick : mg "_law_pick" = some (.ref a_law_pick)
  b_law_pick : Binds K d_law_pick ["box", "rows"] []
  a_law_drawn : Addr
  d_law_drawn : FuncData
  f_law_drawn : Fun K "_law_drawn" "_law_drawn" s_law_drawn a_law_drawn d_law_drawn
  g_law_drawn : mg "_law_drawn" = some (.ref a_law_drawn)
  b_law_drawn : Binds K d_law_drawn ["box"] []
  a_law_covered : Addr
  d_law_covered : FuncData
  f_law_covered : Fun K "_law_covered" "_law_covered" s_law_covered a_law_covered d_law_covered
  g_law_covered : mg "_law_covered" = some (.ref a_law_covered)
  b_law_covered : Binds K d_law_covered ["row", "rows"] []
  a_law_due : Addr
  d_law_due : FuncData
  f_law_due : Fun K "_law_due" "_law_due" s_law_due a_law_due d_law_due
  g_law_due : mg "_law_due" = some (.ref a_law_due)
  b_law_due : Binds K d_law_due ["rows"] []
  n_all : mg "all" = none
  n_any : mg "any" = none
  n_zip : mg "zip" = none
  n_tuple : mg "tuple" = none
  n_sorted : mg "sorted" = none
  n_int : mg "int" = none
  n_len : mg "len" = none
  n_range : mg "range" = none
  n_list : mg "list" = none
  n_isinstance : mg "isinstance" = none
  n_repr : mg "repr" = none

/-! ### the box: a generator of numbers; only its form matters -/
def Box (b c : Addr) (H : Hp) : Prop := ∃ (seed pend : Int) (cells : List Int), H b = some (.lst [.int seed, .int pend, .ref c]) ∧ H c = some (.lst (cells.map V.int)) ∧ 0 ≤ seed ∧ seed < 2147483647 ∧ 0 ≤ pend ∧ ∀ x ∈ cells, 0 ≤ x
/-- all but the box's two lists stays -/
def Fr2 (b c : Addr) (H H' : Hp) : Prop := ∀ a o, a ≠ b → a ≠ c → H a = some o → H' a = some o
theorem Fr2.refl (b c : Addr) (H : Hp) : Fr2 b c H H := fun _ _ _ _ h => h
theorem Fr2.trans {b c : Addr} {H H1 H2 : Hp} (x : Fr2 b c H H1) (y : Fr2 b c H1 H2) : Fr2 b c H H2 := fun a o h1 h2 h => y a o h1 h2 (x a o h1 h2 h)
theorem Fr2.of {b c : Addr} {H H' : Hp} (x : Same H H') : Fr2 b c H H' := fun a o _ _ h => x a o h
theorem Box.same {b c : Addr} {H H' : Hp} (x : Box b c H) (s : Same H H') : Box b c H' := by
  obtain ⟨i, p, cs, h1, h2, r⟩ := x
  exact ⟨i, p, cs, s _ _ h1, s _ _ h2, r⟩
theorem box_bc {b c : Addr} {i p : Int} {cs : List Int} {H : Hp} (h1 : H b = some (.lst [.int i, .int p, .ref c])) (h2 : H c = some (.lst (cs.map V.int))) : b ≠ c :=
  ne_of h1 h2 fun e => by
    injection e with e
    have e2 := congrArg (fun l => l[2]?) e
    simp only [List.getElem?_map] at e2
    have e3 : some (V.ref c) = (cs[2]?).map V.int := e2
    cases q : cs[2]? with
    | none => rw [q] at e3; cases e3
    | some z => rw [q] at e3; cases e3
def spTake : Sp := fun vs H Q _ => ∃ (b c : Addr) (many : Int), vs = [.ref b, .int many] ∧ Box b c H ∧ 0 < many ∧ many ≤ 10 ^ 21 ∧ ∀ (H' : Hp) (t : Int), Box b c H' → Fr2 b c H H' → 0 ≤ t → t < many → Q (.int t) H'
section
variable {P : Program} {w : World} {K : PySem.W.Frag} {mg : Str → Option Value} {base : Heap}
theorem small_log {n : Int} (h0 : 0 < n) (h : n ≤ 10 ^ 21) : n.natAbs.log2 < 9000 := by
  have h1 : n.natAbs < 2 ^ 70 := by omega
  have h2 : n.natAbs ≠ 0 := by omega
  have := (Nat.log2_lt h2).mpr h1
  omega
theorem ok_law_take (T : Txt K mg) : FnOk P w K mg base CX0 1 T.a_law_take T.d_law_take ["box", "many"] spTake := by
  refine T.f_law_take.ok sc_law_take (fun vs H Q E h => ?_) (fun cdv A outer s H vs Q E hr h => ?_)
  · obtain ⟨b, c, m, rfl, _⟩ := h
    rfl
  · obtain ⟨b, c, m, rfl, ⟨i, p, cs, hb, hc, i0, i1, p0, cs0⟩, m0, m1, k⟩ := h
    have nbc := box_bc hb hc
    refine ⟨_, (Evl.pss_cut (ps_if (PW.pt (pw_and (pt_cmpR op_eq (pe_ix ix_list (pv 0) pe_int (fun _ _ => rfl)) pe_int (nomark _)) (pw_and1 (pt_truth (pe_ix ix_list (pv 0) pe_int (fun _ _ => rfl)) (by intro _; rfl)))))
      (pss_one (ps_asg (pe_bm PySem.F.plainAttrs_list PySem.F.slot_list_pop PySem.F.type_list_pop mt_popAt (pe_ix ix_list (pv 0) pe_int (fun _ _ => rfl)) (pa_cons pe_int pa_nil)) (pg_sub (pv 0) pe_int set_list)))
      pss_nil)
    (pss_cons (ps_if (pt_cmpR op_gt (pe_ix ix_list (pv 0) pe_int (fun _ _ => rfl)) pe_int (nomark _))
      (pss_cons (ps_set (i := 2) sc_law_take.nd rfl (by first | exact Or.inl rfl | exact Or.inr rfl) (pe_op op_mod (pe_callTy call_int1 (by rfl) T.n_int (by decide +kernel) (pa_cons (pe_ix ix_list (pv 0) pe_int (fun _ _ => rfl)) pa_nil)) (pv 1)))
      (pss_cons (ps_asg (pe_op op_fdivW (pe_ix ix_list (pv 0) pe_int (fun _ _ => rfl)) (pv 1)) (pg_sub (pv 0) pe_int set_list))
      (pss_one (ps_ret (pv 2)))))
      pss_nil)
    (pss_cons (ps_asg (pe_op op_mod (pe_op op_add (pe_op op_mul (pe_callTy call_int1 (by rfl) T.n_int (by decide +kernel) (pa_cons (pe_ix ix_list (pv 0) pe_int (fun _ _ => rfl)) pa_nil)) pe_int) pe_int) pe_int) (pg_sub (pv 0) pe_int set_list))
    (pss_one (ps_ret (pe_op op_mod (pe_op op_mod (pe_op op_add (pe_op op_mul (pe_callTy call_int1 (by rfl) T.n_int (by decide +kernel) (pa_cons (pe_ix ix_list (pv 0) pe_int (fun _ _ => rfl)) pa_nil)) pe_int) pe_int) pe_int) (pv 1))))))), ?_⟩
    -- the fill-up
    refine ⟨fun σ H1 => σ = start N_law_take [.ref b, .int m] ∧ Fr2 b c H H1 ∧ ∃ (p' : Int) (cs' : List Int), H1 b = some (.lst [.int i, .int p', .ref c]) ∧ H1 c = some (.lst (cs'.map V.int)) ∧ 0 ≤ p' ∧ ∀ x ∈ cs', 0 ≤ x, ?_, ?_⟩
    · refine ⟨_, rfl, b, _, _, _, rfl, rfl, SqL.of hb, rfl, rfl, _, rfl, ?_⟩
      refine ite2 (fun _ => ?_) (fun _ => ?_)
      · refine ⟨_, rfl, b, _, _, _, rfl, rfl, SqL.of hb, rfl, _, .inl ⟨_, SqL.of hc, rfl⟩, ?_⟩
        refine ite2 (fun e => ?_) (fun _ => ?_)
        · cases cs with
          | nil => cases e
          | cons z r =>
            refine ⟨_, rfl, b, _, _, _, rfl, rfl, SqL.of hb, rfl, .inl ⟨rfl, _, SqL.of hc⟩, c, _, 0, 0, _, rfl, rfl, hc, by decide, by decide, by simp [seqIndex?], rfl, ?_⟩
            refine ⟨_, rfl, b, _, _, _, rfl, rfl, (upd_ne nbc).trans hb, rfl, ?_⟩
            refine ⟨rfl, fun a o h1 h2 h3 => ?_, z, r, upd_same, ?_, cs0 z (by simp), fun x hx => cs0 x (by simp [hx])⟩
            · rw [upd_ne h1, upd_ne h2]
              exact h3
            · rw [upd_ne nbc.symm, upd_same]
              rfl
        · exact ⟨rfl, Fr2.refl b c H, p, cs, hb, hc, p0, cs0⟩
      · exact ⟨rfl, Fr2.refl b c H, p, cs, hb, hc, p0, cs0⟩
    · rintro σ H1 ⟨rfl, f1, p', cs', hb1, hc1, p0', cs0'⟩
      refine ⟨_, rfl, b, _, _, _, rfl, rfl, SqL.of hb1, rfl, _, _, rfl, rfl, _, rfl, ?_⟩
      refine ite2 (fun _ => ?_) (fun _ => ?_)
      · refine ⟨_, rfl, b, _, _, _, rfl, rfl, SqL.of hb1, rfl, .inl ⟨_, rfl, _, rfl, _, _, rfl, rfl, m0, ?_⟩⟩
        refine ⟨_, rfl, b, _, _, _, rfl, rfl, SqL.of hb1, rfl, _, rfl, _, _, rfl, rfl, ⟨m0, small_log m0 m1⟩, _, rfl, b, _, _, _, rfl, rfl, hb1, rfl, ?_⟩
        refine ⟨_, rfl, ?_⟩
        refine k _ _ ⟨i, p' / m, cs', upd_same, ?_, i0, i1, Int.ediv_nonneg p0' (by omega), cs0'⟩ (f1.trans fun a o h1 h2 h3 => ?_) (Int.emod_nonneg _ (by omega)) (Int.emod_lt_of_pos _ m0)
        · rw [upd_ne nbc.symm]
          exact hc1
        · rw [upd_ne h1]
          exact h3
      · refine ⟨_, rfl, b, _, _, _, rfl, rfl, SqL.of hb1, rfl, .inl ⟨_, rfl, _, _, rfl, rfl, .inl ⟨by omega, by omega⟩, _, _, rfl, rfl, _, _, rfl, rfl, (by decide : (0 : Int) < 2147483647), ?_⟩⟩
        refine ⟨_, rfl, b, _, _, _, rfl, rfl, hb1, rfl, ?_⟩
        have j0 := Int.emod_nonneg (i * 48271 + 11) (by decide : (2147483647 : Int) ≠ 0)
        have j1 := Int.emod_lt_of_pos (i * 48271 + 11) (by decide : (0 : Int) < 2147483647)
        refine ⟨_, rfl, b, _, _, _, rfl, rfl, SqL.of upd_same, rfl, .inl ⟨_, rfl, _, _, rfl, rfl, .inl ⟨by omega, by omega⟩, _, _, rfl, rfl, _, _, rfl, rfl, (by decide : (0 : Int) < 2147483629), ?_⟩⟩
        refine ⟨_, rfl, _, _, rfl, rfl, m0, ?_⟩
        refine k _ _ ⟨_, p', cs', upd_same, ?_, j0, j1, p0', cs0'⟩ (f1.trans fun a o h1 h2 h3 => ?_) (Int.emod_nonneg _ (by omega)) (Int.emod_lt_of_pos _ m0)
        · rw [upd_ne nbc.symm]
          exact hc1
        · rw [upd_ne h1]
          exact h3
end
end K65

set_option Elab.async false
set_option linter.all false
set_option maxRecDepth 100000
set_option maxHeartbeats 4000000
namespace K65
open PySem L2 OW
/-- box[..] picks an item of a list -/
def spPick (K : PySem.W.Frag) : Sp := fun vs H Q _ => ∃ (b c a : Addr) (xs : List V), vs = [.ref b, .ref a] ∧ Box b c H ∧ a ≠ b ∧ a ≠ c ∧ H a = some (.lst xs) ∧ 0 < xs.length ∧ xs.length ≤ 1000 ∧
  ∀ (H' : Hp) (v : V), Box b c H' → Fr2 b c H H' → v ∈ xs → Q v H'
def spBox (K : PySem.W.Frag) : Sp := fun vs H Q _ => ∃ (a : Addr) (ns : List Int), vs = [.ref a] ∧ SqL K H a (ns.map V.int) ∧ ns.length ≤ 63 ∧ ∀ (H' : Hp) (b c : Addr), Same H H' → H b = none → H c = none → Box b c H' → Q (.ref b) H'
section
variable {P : Program} {w : World} {K : PySem.W.Frag} {mg : Str → Option Value} {base : Heap}
theorem ok_law_pick (T : Txt K mg) : FnOk P w K mg base CX0 2 T.a_law_pick T.d_law_pick ["box", "rows"] (spPick K) := by
  refine T.f_law_pick.ok sc_law_pick (fun vs H Q E h => ?_) (fun cdv A outer s H vs Q E hr h => ?_)
  · obtain ⟨b, c, a, xs, rfl, _⟩ := h
    rfl
  · obtain ⟨b, c, a, xs, rfl, hB, nab, nac, ha, l0, l1, k⟩ := h
    refine ⟨_, (pss_one (ps_ret (pe_ix ix_list (pv 1) (pe_call (ok_law_take T) (hr.mono (by decide)) rfl T.g_law_take T.f_law_take.kp T.b_law_take .nil pass0 (pa_cons (pv 0) (pa_cons (pe_callB call_len_seq (by rfl) T.n_len (by decide +kernel) (pa_cons (pv 1) pa_nil)) pa_nil))) (fun _ _ => rfl)))), ?_⟩
    refine ⟨_, rfl, _, rfl, _, rfl, a, _, rfl, .inl (SqL.of ha), b, c, _, rfl, hB, by omega, by omega, fun H' t hB' hf t0 t1 => ?_⟩
    have ha' := hf a _ nab nac ha
    have hlt : t.toNat < xs.length := by omega
    have hx : xs[t.toNat]? = some xs[t.toNat] := List.getElem?_eq_getElem hlt
    refine ⟨a, xs, t, xs[t.toNat], rfl, rfl, SqL.of ha', ?_, k _ _ hB' hf (List.getElem_mem hlt)⟩
    exact at_of (by omega) hx
theorem ok_law_box (T : Txt K mg) : FnOk P w K mg base CX0 1 T.a_law_box T.d_law_box ["script"] (spBox K) := by
  refine T.f_law_box.ok sc_law_box (fun vs H Q E h => ?_) (fun cdv A outer s H vs Q E hr h => ?_)
  · obtain ⟨a, ns, rfl, _⟩ := h
    rfl
  · obtain ⟨a, ns, rfl, ha, hl, k⟩ := h
    refine ⟨_, (pss_cons (ps_setLc (i := 1) rfl sc_law_box.nd rfl rfl (sw_true rfl rfl rfl (by decide +kernel)) (own := [("cell", 3)]) (g := gName 3) (pi_list (pe_slice sl_list (pv 0) po_none (po_some pe_int))) (blkOk_by (N := N_law_box) (sc := defScope s_law_box) (by decide +kernel)) (fun _ _ _ _ _ => pg_name (i := 3) sc_law_box.nd rfl (Or.inl rfl)) (fun _ _ _ _ _ => pts_nil) (fun _ _ _ _ _ => (pe_callTy call_int1 (by rfl) T.n_int (by decide +kernel) (pa_cons (pv 3) pa_nil))))
    (pss_cons (ps_set (i := 2) sc_law_box.nd rfl (by first | exact Or.inl rfl | exact Or.inr rfl) pe_int)
    (Evl.pss_cut (ps_for PassesOwn.never rfl (pi_list (pv 1)) (pg_name (i := 3) sc_law_box.nd rfl (by first | exact Or.inl rfl | exact Or.inr rfl))
      (pss_one (ps_set (i := 2) sc_law_box.nd rfl (by first | exact Or.inl rfl | exact Or.inr rfl) (pe_op op_mod (pe_op op_add (pe_op op_add (pe_op op_mul (pv 2) pe_int) (pe_op op_mod (pv 3) pe_int)) pe_int) pe_int))))
    (pss_one (ps_ret (pe_lst (pa_cons (pv 2) (pa_cons pe_int (pa_cons (pe_lc (own := [("cell", 3)]) (g := gName 3) rfl sc_law_box.nd (pi_list (pv 1)) (blkOk_by (N := N_law_box) (sc := defScope s_law_box) (by decide +kernel)) (fun _ _ _ _ _ => pg_name (i := 3) sc_law_box.nd rfl (Or.inl rfl)) (fun _ _ _ _ _ => (pts_one (pt_cmpR op_ge (pv 3) (pe_op op_pow pe_int pe_int) (nomark _)))) (fun _ _ _ _ _ => (pv 3))) pa_nil))))))))), ?_⟩
    obtain ⟨ms, hms⟩ : ∃ ms : List Int, cutV (ns.map V.int) none (some 63) = ms.map V.int := ⟨_, (by
      unfold cutV
      rw [← List.map_drop, ← List.map_take])⟩
    have lm : ms.length ≤ 63 := by
      have h1 := cutV_length (ns.map V.int) none (some 63)
      rw [hms, List.length_map, List.length_map] at h1
      omega
    refine ⟨_, rfl, _, rfl, a, _, rfl, ha, fun p hp => ⟨p, rfl, ⟨_, SqL.of upd_same⟩, fun D hD => ?_⟩⟩
    rw [hms] at hD ⊢
    have nHD : H D = none := by
      by_cases e : D = p
      · rw [e]
        exact hp
      · rw [upd_ne e] at hD
        exact hD
    have nDp : p ≠ D := fun e => by
      rw [← e, upd_same] at hD
      cases hD
    have sp : Same H (upd H p (.lst (ms.map V.int))) := fun b o e => by
      rw [upd_ne (ne_of_none e hp)]
      exact e
    refine lc_list (K := K) (a := p) (xs := ms.map V.int) (fun i H' => Same H H' ∧ H' p = some (.lst (ms.map V.int)) ∧ H' D = some (.lst ((ms.take i).map V.int))) ⟨fun b o e => ?_, ?_, upd_same⟩ (fun i H' _ h => SqL.of h.2.1) ?_ ?_
    · rw [upd_ne (ne_of_none e nHD)]
      exact sp b o e
    · rw [upd_ne nDp]
      exact upd_same
    · rintro i x H' hx ⟨h1, h2, h3⟩
      rw [List.getElem?_map] at hx
      cases hu : ms[i]? with
      | none =>
        rw [hu] at hx
        cases hx
      | some u =>
        rw [hu] at hx
        have hx' := Option.some.inj hx
        subst hx'
        have hi : i < ms.length := (List.getElem?_eq_some_iff.mp hu).1
        refine ⟨rfl, _, rfl, .inl ⟨_, rfl, _, h3, ?_, fun b o e => ?_, ?_, ?_⟩⟩
        · rw [List.length_map, List.length_take]
          exact small1000 (by omega)
        · rw [upd_ne (ne_of_none e nHD)]
          exact h1 b o e
        · rw [upd_ne nDp]
          exact h2
        · rw [upd_same, List.take_succ, hu]
          simp
    · rintro H' ⟨h1, _, h3⟩
      rw [List.length_map, List.take_length] at h3
      -- seed = 7; for cell in cells: ..
      refine ⟨fun σ2 H2 => H2 = H' ∧ ∃ (z : Int) (v : Option V), 0 ≤ z ∧ z < 2147483647 ∧ σ2 = [some (.ref a), some (.ref D), some (.int z), v], ?_, ?_⟩
      · refine ⟨_, rfl, D, rfl, ⟨_, SqL.of h3⟩, for_list (K := K) (a := D) (xs := ms.map V.int) (fun i σ2 H2 => H2 = H' ∧ ∃ (z : Int) (v : Option V), 0 ≤ z ∧ z < 2147483647 ∧ σ2 = [some (.ref a), some (.ref D), some (.int z), v])
          ⟨rfl, 7, none, by decide, by decide, rfl⟩ (fun i σ2 H2 _ h => ?_) ?_ (fun σ2 H2 h => h)⟩
        · obtain ⟨rfl, _⟩ := h
          exact SqL.of h3
        · rintro i x σ2 H2 hx ⟨rfl, z, v, z0, z1, rfl⟩
          rw [List.getElem?_map] at hx
          cases hu : ms[i]? with
          | none =>
            rw [hu] at hx
            cases hx
          | some u =>
            rw [hu] at hx
            have hx' := Option.some.inj hx
            subst hx'
            refine ⟨_, rfl, _, _, rfl, rfl, .inl ⟨by omega, by omega⟩, _, rfl, _, _, rfl, rfl, (by decide : (0 : Int) < 2147483647), _, _, rfl, rfl, _, _, rfl, rfl, _, _, rfl, rfl, (by decide : (0 : Int) < 2147483647), ?_⟩
            exact ⟨rfl, _, _, Int.emod_nonneg _ (by decide), Int.emod_lt_of_pos _ (by decide), rfl⟩
      · rintro σ2 H2 ⟨rfl, z, v, z0, z1, rfl⟩
        refine ⟨_, rfl, _, rfl, D, rfl, ⟨_, SqL.of h3⟩, fun C hC => ?_⟩
        have nHC : H C = none := h1.free hC
        have nDC : D ≠ C := ne_of_none h3 hC
        refine lc_list (K := K) (a := D) (xs := ms.map V.int) (fun i H3 => Same H H3 ∧ H3 D = some (.lst (ms.map V.int)) ∧ ∃ cs : List Int, H3 C = some (.lst (cs.map V.int)) ∧ cs.length ≤ i ∧ ∀ x ∈ cs, 0 ≤ x) ⟨fun b o e => ?_, ?_, [], upd_same, Nat.le_refl _, fun x hx => by cases hx⟩ (fun i H' _ h => SqL.of h.2.1) ?_ ?_
        · rw [upd_ne (ne_of_none e nHC)]
          exact h1 b o e
        · rw [upd_ne nDC]
          exact h3
        · rintro i x H3 hx ⟨g1, g2, cs, g3, g4, g5⟩
          rw [List.getElem?_map] at hx
          cases hu : ms[i]? with
          | none =>
            rw [hu] at hx
            cases hx
          | some u =>
            rw [hu] at hx
            have hx' := Option.some.inj hx
            subst hx'
            have hi : i < ms.length := (List.getElem?_eq_some_iff.mp hu).1
            refine ⟨rfl, _, rfl, _, _, rfl, rfl, ⟨by decide, by decide, by decide⟩, _, _, rfl, rfl, _, rfl, ?_⟩
            refine ite2 (fun e => ?_) (fun _ => ⟨g1, g2, cs, g3, by omega, g5⟩)
            have e' : (10 : Int) ^ (18 : Int).toNat ≤ u := of_decide_eq_true e
            have e2 : (0 : Int) ≤ u := Int.le_trans (by decide) e'
            refine ⟨_, rfl, _, g3, ?_, fun b o e => ?_, ?_, cs ++ [u], ?_, ?_, ?_⟩
            · rw [List.length_map]
              exact small1000 (by omega)
            · rw [upd_ne (ne_of_none e nHC)]
              exact g1 b o e
            · rw [upd_ne nDC]
              exact g2
            · rw [upd_same, List.map_append]
              rfl
            · rw [List.length_append, List.length_singleton]
              omega
            · intro x hx
              rcases List.mem_append.mp hx with hx | hx
              · exact g5 x hx
              · rw [List.mem_singleton.mp hx]
                exact e2
        · rintro H3 ⟨g1, g2, cs, g3, g4, g5⟩
          refine ⟨by show 3 ≤ sizeLine; decide, fun B hB => ?_⟩
          refine k _ B C (fun b o e => ?_) (g1.free hB) nHC ⟨z, 0, cs, upd_same, ?_, z0, z1, by decide, g5⟩
          · rw [upd_ne (ne_of_none (g1 b o e) hB)]
            exact g1 b o e
          · rw [upd_ne (ne_of_none g3 hB)]
            exact g3
end
end K65

set_option Elab.async false
set_option linter.all false
set_option maxRecDepth 100000
set_option maxHeartbeats 4000000
namespace K65
open PySem L2 OW
/-! ### what the defs compute -/
def leAt (r q : List Int) (i : Nat) : Bool := decide (r.getD i 0 ≤ q.getD i 0)
def belowB (r q : List Int) : Bool := if r = q then false else (List.range (min r.length q.length)).all (leAt r q)
def firsts : List (List Int) → List (List Int) := fun rs => rs.foldl (fun acc r => if r ∈ acc then acc else acc ++ [r]) []
def gStep (g : List (List Int)) (r : List Int) : List (List Int) := if (g.any fun o => belowB r o) = true then g else g ++ [r]
def greatest (rs : List (List Int)) : List (List Int) := ((((firsts rs).mergeSort fun p q => decide (q ≤ p)).foldl gStep []).mergeSort fun p q => decide (p ≤ q))
theorem get_int {r : List Int} {i : Nat} {x : V} (h : (r.map V.int)[i]? = some x) : x = .int (r.getD i 0) ∧ i < r.length := by
  rw [List.getElem?_map] at h
  cases e : r[i]? with
  | none =>
    rw [e] at h
    cases h
  | some u =>
    rw [e] at h
    have h' := Option.some.inj h
    refine ⟨?_, (List.getElem?_eq_some_iff.mp e).1⟩
    rw [← h', List.getD_eq_getElem?_getD, e]
    rfl
def spBelow (K : PySem.W.Frag) : Sp := fun vs H Q _ => ∃ (x y : V) (r q : List Int), vs = [x, y] ∧ Tp K H x r ∧ Tp K H y q ∧ r.length ≤ 1000 ∧ ∀ H' : Hp, Same H H' → Q (.bl (belowB r q)) H'
section
variable {P : Program} {w : World} {K : PySem.W.Frag} {mg : Str → Option Value} {base : Heap}
theorem oklies_below (T : Txt K mg) : FnOk P w K mg base CX0 1 T.alies_below T.dlies_below ["row", "other"] (spBelow K) := by
  refine T.flies_below.ok sclies_below (fun vs H Q E h => ?_) (fun cdv A outer s H vs Q E hr h => ?_)
  · obtain ⟨a, b, r, q, rfl, _⟩ := h
    rfl
  · obtain ⟨x, y, r, q, rfl, hx, hy, hl, k⟩ := h
    refine ⟨_, (pss_cons (ps_if (pt_cmpR (op_eqD hr.units) (pv 0) (pv 1) (nomark _))
      (pss_one (ps_ret pe_bl))
      pss_nil)
    (pss_one (ps_ret (pe_callB (cr_all rfl) (by rfl) T.n_all (by decide +kernel) (pa_cons (pe_lc (own := [("number", 2), ("most", 3)]) (g := gTup K 2 (gCons (gName 2) (gCons (gName 3) gNil))) rfl sclies_below.nd (RZ.pi_zipA rfl T.n_zip (pa_cons (pv 0) (pa_cons (pv 1) pa_nil))) (blkOk_by (N := Nlies_below) (sc := defScope slies_below) (by decide +kernel)) (fun _ _ _ _ _ => (pg_tup (by rfl) (pgs_cons (pg_name (i := 2) sclies_below.nd rfl (Or.inl rfl)) (pgs_cons (pg_name (i := 3) sclies_below.nd rfl (Or.inl rfl)) pgs_nil)))) (fun _ _ _ _ _ => pts_nil) (fun _ _ _ _ _ => (pe_cmpR op_le (pv 2) (pv 3) (nomark _)))) pa_nil))))), ?_⟩
    refine ⟨_, rfl, _, rfl, tupD r, tupD q, hx.dp, hy.dp, shaped_tup r, shaped_tup q, _, rfl, ?_⟩
    rw [eqv_tup]
    refine ite2 (fun e => ?_) (fun e => ?_)
    · have e' : r = q := of_decide_eq_true e
      have z := k H (Same.refl H)
      rw [show belowB r q = false from if_pos e'] at z
      exact z
    · have e' : ¬ r = q := fun z => e (decide_eq_true z)
      obtain ⟨a, rfl, ha⟩ := hx
      obtain ⟨b, rfl, hb⟩ := hy
      refine ⟨_, rfl, _, rfl, a, b, r.map V.int, q.map V.int, rfl, .inr ⟨SqT.of ha, SqT.of hb, ?_⟩⟩
      intro D hD
      refine lc_map (n := min r.length q.length) (Y := YPair (fun i => (r.map V.int)[i]?) (fun i => (q.map V.int)[i]?)) (fun i => V.bl (leAt r q i)) (by omega) ?_ hD ?_ ?_
      · refine (walk_zipT (by rw [List.length_map, List.length_map])).mono (fun H' s' => ⟨SqT.of (s' _ _ ha), SqT.of (s' _ _ hb)⟩) (fun _ _ _ _ _ _ y => y)
      · rintro i z H1 H2 hi s1 ⟨t, u, v, rfl, ht, rfl, hu, hv⟩ Q' k'
        obtain ⟨rfl, _⟩ := get_int hu
        obtain ⟨rfl, _⟩ := get_int hv
        refine ⟨t, _, rfl, SqT.of upd_same, rfl, _, _, rfl, _, _, rfl, rfl, rfl, ?_⟩
        refine ⟨_, rfl, _, rfl, _, _, rfl, rfl, ?_⟩
        exact k' _ (OW.Same.upd_new (Same.refl H1) ht)
      · intro H1 s1 h1
        refine ⟨D, (List.range (min r.length q.length)).map (leAt r q), rfl, SqL.of (by rw [h1, List.map_map]; rfl), ?_⟩
        have z := k H1 s1
        rw [show belowB r q = _ from if_neg e'] at z
        rw [List.all_map]
        exact z
end
end K65

set_option Elab.async false
set_option linter.all false
set_option maxRecDepth 100000
set_option maxHeartbeats 4000000
namespace K65
open PySem L2 OW
theorem keys_putK {κ : Type} [DecidableEq κ] (kvs : List (κ × V)) (k : κ) (v : V) : (putK kvs k v).map (·.1) = if k ∈ kvs.map (·.1) then kvs.map (·.1) else kvs.map (·.1) ++ [k] := by
  have hk : ((kvs.any fun kv => decide (kv.1 = k)) = true) ↔ k ∈ kvs.map (·.1) := by
    rw [List.any_eq_true, List.mem_map]
    exact ⟨fun ⟨p, h1, h2⟩ => ⟨p, h1, of_decide_eq_true h2⟩, fun ⟨p, h1, h2⟩ => ⟨p, h1, decide_eq_true h2⟩⟩
  unfold putK
  by_cases h : k ∈ kvs.map (·.1)
  · rw [if_pos (hk.mpr h), if_pos h, List.map_map]
    refine List.map_congr_left fun p _ => ?_
    show (if p.1 = k then (p.1, v) else p).1 = p.1
    split <;> rfl
  · rw [if_neg (fun z => h (hk.mp z)), if_neg h, List.map_append]
    rfl
theorem inl_inj : ∀ {r q : List Int}, r.map (Sum.inl : Int → Key) = q.map Sum.inl → r = q
  | [], [], _ => rfl
  | [], _ :: _, h => by cases h
  | _ :: _, [], h => by cases h
  | x :: r, y :: q, h => by
    rw [List.map_cons, List.map_cons] at h
    injection h with h1 h2
    rw [Sum.inl.inj h1, inl_inj h2]
theorem firsts_snoc (l : List (List Int)) (r : List Int) : firsts (l ++ [r]) = if r ∈ firsts l then firsts l else firsts l ++ [r] := by
  unfold firsts
  rw [List.foldl_append]
  rfl
theorem keys_step {kvs : List (List Key × V)} {l : List (List Int)} {r : List Int} {v : V} (h : kvs.map (·.1) = (firsts l).map (fun r => r.map Sum.inl)) :
    (putK kvs (r.map Sum.inl) v).map (·.1) = (firsts (l ++ [r])).map (fun r => r.map Sum.inl) := by
  rw [keys_putK, h, firsts_snoc]
  by_cases e : r ∈ firsts l
  · rw [if_pos e, if_pos (List.mem_map.mpr ⟨r, e, rfl⟩)]
  · rw [if_neg e, if_neg (fun z => by
      obtain ⟨q, hq, e2⟩ := List.mem_map.mp z
      exact e (inl_inj e2 ▸ hq)), List.map_append]
    rfl
theorem take_snoc {α : Type} {l : List α} {i : Nat} {x : α} (h : l[i]? = some x) : l.take (i + 1) = l.take i ++ [x] := by
  rw [List.take_succ, h]
  rfl
theorem firsts_mem (l : List (List Int)) : ∀ {r : List Int}, r ∈ firsts l ↔ r ∈ l := by
  have go : ∀ (l acc : List (List Int)) (r : List Int), r ∈ l.foldl (fun acc r => if r ∈ acc then acc else acc ++ [r]) acc ↔ r ∈ acc ∨ r ∈ l := by
    intro l
    induction l with
    | nil =>
      intro acc r
      simp
    | cons x l ih =>
      intro acc r
      rw [List.foldl_cons, ih]
      by_cases e : x ∈ acc
      · rw [if_pos e]
        constructor
        · rintro (h | h)
          · exact .inl h
          · exact .inr (List.mem_cons_of_mem _ h)
        · rintro (h | h)
          · exact .inl h
          · rcases List.mem_cons.mp h with rfl | h
            · exact .inl e
            · exact .inr h
      · rw [if_neg e, List.mem_append, List.mem_singleton, List.mem_cons]
        constructor
        · rintro ((h | h) | h)
          · exact .inl h
          · exact .inr (.inl h)
          · exact .inr (.inr h)
        · rintro (h | h | h)
          · exact .inl (.inl h)
          · exact .inl (.inr h)
          · exact .inr h
  intro r
  have := go l [] r
  simpa [firsts] using this
theorem firsts_len (l : List (List Int)) : (firsts l).length ≤ l.length := by
  have go : ∀ (l acc : List (List Int)), (l.foldl (fun acc r => if r ∈ acc then acc else acc ++ [r]) acc).length ≤ acc.length + l.length := by
    intro l
    induction l with
    | nil =>
      intro acc
      simp
    | cons x l ih =>
      intro acc
      rw [List.foldl_cons]
      refine Nat.le_trans (ih _) ?_
      split
      · rw [List.length_cons]
        omega
      · rw [List.length_append, List.length_singleton, List.length_cons]
        omega
  simpa [firsts] using go l []
theorem gStep_len (g : List (List Int)) (r : List Int) : (gStep g r).length ≤ g.length + 1 := by
  unfold gStep
  split
  · omega
  · rw [List.length_append, List.length_singleton]
    omega
theorem rows_updL {K : PySem.W.Frag} {H : Hp} {G : Addr} {xs zs vs : List V} {rs : List (List Int)} (h : H G = some (.lst xs)) (R : Rows K H vs rs) : Rows K (upd H G (.lst zs)) vs rs :=
  Paired.mapP R fun x r ⟨a, e, ha⟩ => ⟨a, e, by rw [upd_ne (ne_of ha h (fun z => by cases z))]; exact ha⟩
theorem any_getD {α : Type} (f : α → Bool) (d : α) (l : List α) : (List.range l.length).any (fun i => f (l.getD i d)) = l.any f := by
  have e : (List.range l.length).map (fun i => l.getD i d) = l := by
    refine List.ext_getElem (by simp) fun i h1 h2 => ?_
    simp [List.getD_eq_getElem?_getD, List.getElem?_eq_getElem h2]
  have e2 : l.any f = ((List.range l.length).map (fun i => l.getD i d)).any f := by rw [e]
  rw [e2, List.any_map]
  rfl
theorem getD_of {α : Type} {l : List α} {i : Nat} {x d : α} (h : l[i]? = some x) : l.getD i d = x := by
  rw [List.getD_eq_getElem?_getD, h]
  rfl
def gOf (l : List (List Int)) : List (List Int) := l.foldl gStep []
theorem gOf_snoc (l : List (List Int)) (r : List Int) : gOf (l ++ [r]) = gStep (gOf l) r := by
  unfold gOf
  rw [List.foldl_append]
  rfl
theorem gOf_mem (l : List (List Int)) : ∀ {r : List Int}, r ∈ gOf l → r ∈ l := by
  have go : ∀ (l acc : List (List Int)) (r : List Int), r ∈ l.foldl gStep acc → r ∈ acc ∨ r ∈ l := by
    intro l
    induction l with
    | nil =>
      intro acc r h
      exact .inl h
    | cons x l ih =>
      intro acc r h
      rw [List.foldl_cons] at h
      rcases ih _ _ h with h | h
      · unfold gStep at h
        split at h
        · exact .inl h
        · rcases List.mem_append.mp h with h | h
          · exact .inl h
          · exact .inr (List.mem_cons.mpr (.inl (List.mem_singleton.mp h)))
      · exact .inr (List.mem_cons_of_mem _ h)
  intro r h
  rcases go l [] r h with h | h
  · cases h
  · exact h
def spGreatest (K : PySem.W.Frag) : Sp := fun vs H Q _ => ∃ (a : Addr) (xs : List V) (rs : List (List Int)) (d : Nat), vs = [.ref a] ∧ (H a = some (.lst xs) ∨ H a = some (.tup xs)) ∧ Rows K H xs rs ∧ (∀ r ∈ rs, r.length = d) ∧ d ≤ 1000 ∧ rs.length ≤ 1000 ∧
  ∀ (H' : Hp) (p : Addr) (ys : List V), Same H H' → H p = none → H' p = some (.lst ys) → Rows K H' ys (greatest rs) → Q (.ref p) H'
section
variable {P : Program} {w : World} {K : PySem.W.Frag} {mg : Str → Option Value} {base : Heap}
theorem okgreatest_rows (T : Txt K mg) : FnOk P w K mg base CX0 2 T.agreatest_rows T.dgreatest_rows ["rows"] (spGreatest K) := by
  refine T.fgreatest_rows.ok scgreatest_rows (fun vs H Q E h => ?_) (fun cdv A outer s H vs Q E hr h => ?_)
  · obtain ⟨a, xs, rs, d, rfl, _⟩ := h
    rfl
  · obtain ⟨a, xs, rs, d, rfl, ha, hR, hd, d1, l1, k⟩ := h
    refine ⟨_, (pss_cons (ps_set (i := 1) scgreatest_rows.nd rfl (by first | exact Or.inl rfl | exact Or.inr rfl) pe_dnewT)
    (Evl.pss_cut (ps_for PassesOwn.never rfl (pi_or (pi_list (pv 0)) (pi_tup (pv 0))) (pg_name (i := 2) scgreatest_rows.nd rfl (by first | exact Or.inl rfl | exact Or.inr rfl))
      (pss_one (ps_dput (hu_of hr) (pv 1) (pe_callTy call_tuple_of (by rfl) T.n_tuple (by decide +kernel) (pa_cons (pv 2) pa_nil)) pe_bl rfl)))
    (pss_cons (ps_set (i := 3) scgreatest_rows.nd rfl (by first | exact Or.inl rfl | exact Or.inr rfl) (pe_lst pa_nil))
    (Evl.pss_cut (ps_for PassesOwn.never rfl (pi_list (pe_callBK (cr_srtDR hr.units rfl) (by rfl) T.n_sorted (by decide +kernel) (pa_cons (pv 1) pa_nil) (pk_cons pe_bl pk_nil))) (pg_name (i := 2) scgreatest_rows.nd rfl (by first | exact Or.inl rfl | exact Or.inr rfl))
      (pss_one (ps_if (pt_not (pt_val (pe_callB (cr_any rfl) (by rfl) T.n_any (by decide +kernel) (pa_cons (pe_lc (own := [("other", 4)]) (g := gName 4) rfl scgreatest_rows.nd (pi_list (pv 3)) (blkOk_by (N := Ngreatest_rows) (sc := defScope sgreatest_rows) (by decide +kernel)) (fun _ _ _ _ _ => pg_name (i := 4) scgreatest_rows.nd rfl (Or.inl rfl)) (fun _ _ _ _ _ => pts_nil) (fun _ _ _ _ _ => (pe_call (oklies_below T) (hr.mono (by decide)) rfl T.glies_below T.flies_below.kp T.blies_below .nil pass0 (pa_cons (pv 2) (pa_cons (pv 4) pa_nil))))) pa_nil))))
        (pss_one (ps_expr (pe_bm PySem.F.plainAttrs_list PySem.F.slot_list_append PySem.F.type_list_append mt_append (pv 3) (pa_cons (pv 2) pa_nil))))
        pss_nil)))
    (pss_one (ps_ret (pe_callB (cr_srt hr.units) (by rfl) T.n_sorted (by decide +kernel) (pa_cons (pv 3) pa_nil)))))))), ?_⟩
    intro kn hkn
    have lx : xs.length = rs.length := Paired.len hR
    -- the distinct rows
    let P1 : Nat → L2.St → Hp → Prop := fun i σ H1 => ∃ (kvs : List (List Key × V)) (v : Option V), σ = [some (.ref a), some (.ref kn), v, none, none] ∧ Same H H1 ∧ H1 kn = some (.dT kvs) ∧ kvs.map (·.1) = (firsts (rs.take i)).map (fun r => r.map Sum.inl) ∧ kvs.length ≤ i
    have turn : ∀ i x σ H1, xs[i]? = some x → P1 i σ H1 → ∃ (t : Addr) (r : List Int) (kvs : List (List Key × V)) (v : Option V), x = .ref t ∧ σ = [some (.ref a), some (.ref kn), v, none, none] ∧ H1 t = some (.tup (r.map V.int)) ∧ H1 kn = some (.dT kvs) ∧ kvs.length ≤ i ∧ i < 1000 ∧
        P1 (i + 1) [some (.ref a), some (.ref kn), some (.ref t), none, none] (upd H1 kn (.dT (putK kvs (r.map Sum.inl) (.bl true)))) := by
      rintro i x σ H1 hx ⟨kvs, v, rfl, s1, hk, hkeys, hl⟩
      obtain ⟨r, hr', t, rfl, ht⟩ := hR.get hx
      have hi := (List.getElem?_eq_some_iff.mp hx).1
      refine ⟨t, r, kvs, v, rfl, rfl, s1 _ _ ht, hk, hl, by omega, _, _, rfl, OW.Same.upd_new s1 hkn, upd_same, ?_, ?_⟩
      · rw [take_snoc hr']
        exact keys_step hkeys
      · have := length_putK kvs (r.map Sum.inl) (V.bl true)
        omega
    refine ⟨P1 xs.length, ?_, ?_⟩
    · have start1 : P1 0 [some (.ref a), some (.ref kn), none, none, none] (upd H kn (.dT [])) := ⟨[], none, rfl, OW.Same.upd_new (Same.refl H) hkn, upd_same, rfl, Nat.le_refl _⟩
      have na : a ≠ kn := ha.elim (fun z => ne_of_none z hkn) fun z => ne_of_none z hkn
      rcases ha with ha | ha
      · refine .inl ⟨_, rfl, a, rfl, ⟨_, SqL.of ((upd_ne na).trans ha)⟩, for_list (K := K) (a := a) (xs := xs) P1 start1 (fun i σ H1 _ h => ?_) ?_ (fun σ H1 h => h)⟩
        · obtain ⟨_, _, _, s1, _⟩ := h
          exact SqL.of (s1 _ _ ha)
        · intro i x σ H1 hx hP
          obtain ⟨t, r, kvs, v, rfl, rfl, ht, hk, hl, hi, hN⟩ := turn i x σ H1 hx hP
          exact ⟨_, rfl, _, rfl, t, _, rfl, .inr ⟨SqT.of ht, kn, _, rfl, DPut.t (k := r.map Sum.inl) hk (by rw [List.map_map]; exact ht) (small1000 (by omega)), hN⟩⟩
      · refine .inr ⟨_, rfl, a, rfl, ⟨_, SqT.of ((upd_ne na).trans ha)⟩, for_tup (K := K) (a := a) (xs := xs) P1 start1 (fun i σ H1 _ h => ?_) ?_ (fun σ H1 h => h)⟩
        · obtain ⟨_, _, _, s1, _⟩ := h
          exact SqT.of (s1 _ _ ha)
        · intro i x σ H1 hx hP
          obtain ⟨t, r, kvs, v, rfl, rfl, ht, hk, hl, hi, hN⟩ := turn i x σ H1 hx hP
          exact ⟨_, rfl, _, rfl, t, _, rfl, .inr ⟨SqT.of ht, kn, _, rfl, DPut.t (k := r.map Sum.inl) hk (by rw [List.map_map]; exact ht) (small1000 (by omega)), hN⟩⟩
    · rintro σ H1 ⟨kvs, v, rfl, s1, hk, hkeys, hl⟩
      rw [lx, List.take_length] at hkeys
      refine ⟨Nat.zero_le _, fun G hG => ?_⟩
      have nkG : kn ≠ G := ne_of_none hk hG
      have dfs : ∀ r ∈ firsts rs, r.length = d := fun r hr' => hd r ((firsts_mem rs).mp hr')
      -- the rows from above
      let srt := (firsts rs).mergeSort fun p q => decide (q ≤ p)
      have dsrt : ∀ r ∈ srt, r.length = d := fun r hr' => dfs r (List.mem_mergeSort.mp hr')
      have lsrt : srt.length ≤ 1000 := by
        have h1 : srt.length = (firsts rs).length := List.length_mergeSort _
        have h2 := firsts_len rs
        omega
      let P2 : Addr → List V → Nat → L2.St → Hp → Prop := fun S ys i σ H' => ∃ (gs : List V) (v : Option V), σ = [some (.ref a), some (.ref kn), v, some (.ref G), none] ∧ Same H H' ∧ H' S = some (.lst ys) ∧ H' G = some (.lst gs) ∧
        Rows K H' gs (gOf (srt.take i)) ∧ Rows K H' ys srt ∧ gs.length ≤ i ∧ S ≠ G
      refine ⟨fun σ H' => ∃ S ys, ys.length = srt.length ∧ P2 S ys ys.length σ H', ?_, ?_⟩
      · refine ⟨_, rfl, kn, kvs, firsts rs, d, rfl, rfl, (upd_ne nkG).trans hk, hkeys, dfs, fun ys S hys hS => ?_⟩
        have lys : ys.length = srt.length := Paired.len hys
        have nSG : S ≠ G := fun e => by
          rw [e, upd_same] at hS
          cases hS
        have hS1 : H1 S = none := by
          rw [upd_ne nSG] at hS
          exact hS
        refine ⟨S, rfl, ⟨_, SqL.of upd_same⟩, for_list (K := K) (a := S) (xs := ys) (P2 S ys) ⟨[], v, rfl, ?_, upd_same, ?_, .nil, ?_, Nat.le_refl _, nSG⟩ (fun i σ H' _ h => ?_) ?_ (fun σ H' h => ⟨S, ys, lys, h⟩)⟩
        · exact OW.Same.upd_new (OW.Same.upd_new s1 (s1.free hG)) (s1.free hS1)
        · rw [upd_ne nSG.symm]
          exact upd_same
        · exact Rows.mono (OW.Same.upd_new (Same.refl _) hS) hys
        · obtain ⟨_, _, _, _, h, _⟩ := h
          exact SqL.of h
        · rintro i x σ H' hx ⟨gs, v, rfl, s2, hSl, hGl, hgs, hy, hlg, _⟩
          obtain ⟨r, hr', hxr⟩ := hy.get hx
          have hi := (List.getElem?_eq_some_iff.mp hx).1
          have rmem : r ∈ srt := List.mem_of_getElem? hr'
          have rlen := dsrt r rmem
          have lgg : gs.length = (gOf (srt.take i)).length := Paired.len hgs
          refine ⟨_, rfl, G, rfl, ⟨_, SqL.of hGl⟩, fun D hD => ?_⟩
          refine lc_map (n := gs.length) (Y := YAt gs) (fun j => V.bl (belowB r ((gOf (srt.take i)).getD j []))) (by omega) ?_ hD ?_ ?_
          · exact walk_list.mono (fun H4 s4 => SqL.of (s4 _ _ hGl)) (fun _ _ _ _ _ _ y => y)
          · rintro j z Ha Hb hj sa ⟨rfl, hz⟩ Q' k'
            obtain ⟨q, hq, hzq⟩ := hgs.get hz
            rw [getD_of hq] at k'
            exact ⟨rfl, _, rfl, _, rfl, x, z, r, q, rfl, hxr.mono sa, hzq.mono sa, by omega, fun H4 s4 => k' H4 s4⟩
          · intro Hd sd hDl
            have eany : ((List.range gs.length).map (fun j => belowB r ((gOf (srt.take i)).getD j []))).any id = (gOf (srt.take i)).any fun o => belowB r o := by
              rw [List.any_map, lgg]
              exact any_getD (fun o => belowB r o) [] _
            refine ⟨D, (List.range gs.length).map (fun j => belowB r ((gOf (srt.take i)).getD j [])), rfl, SqL.of (by rw [hDl, List.map_map]; rfl), _, rfl, ?_⟩
            rw [eany]
            refine ite2 (fun e => ?_) (fun e => ?_)
            · have e' : ¬ ((gOf (srt.take i)).any fun o => belowB r o) = true := fun z => by
                rw [z] at e
                cases e
              refine ⟨_, rfl, .inl ⟨rfl, _, SqL.of (sd _ _ hGl)⟩, _, rfl, G, gs, x, rfl, rfl, sd _ _ hGl, small1000 (by omega), ?_⟩
              have nS' : S ≠ G := nSG
              refine ⟨gs ++ [x], _, rfl, fun b o eb => ?_, ?_, upd_same, ?_, rows_updL (sd _ _ hGl) (hy.mono sd), ?_, nSG⟩
              · rw [upd_ne (ne_of_none eb (s1.free hG))]
                exact sd _ _ (s2 _ _ eb)
              · rw [upd_ne nSG]
                exact sd _ _ hSl
              · rw [take_snoc hr', gOf_snoc]
                unfold gStep
                rw [if_neg e']
                exact rows_updL (sd _ _ hGl) ((hgs.mono sd).snoc (hxr.mono sd))
              · rw [List.length_append, List.length_singleton]
                omega
            · have e' : ((gOf (srt.take i)).any fun o => belowB r o) = true := by
                cases z : (gOf (srt.take i)).any fun o => belowB r o with
                | true => rfl
                | false =>
                  rw [z] at e
                  exact absurd rfl e
              refine ⟨gs, _, rfl, s2.trans sd, sd _ _ hSl, sd _ _ hGl, ?_, hy.mono sd, by omega, nSG⟩
              rw [take_snoc hr', gOf_snoc]
              unfold gStep
              rw [if_pos e']
              exact hgs.mono sd
      · rintro σ H' ⟨S, ys, lys, gs, v, rfl, s2, hSl, hGl, hgs, hy, hlg, nSG⟩
        rw [lys, List.take_length] at hgs
        refine ⟨_, rfl, G, gs, gOf srt, d, rfl, SqL.of hGl, hgs, fun r hr' => dsrt r (gOf_mem srt hr'), fun zs p hzs hp => ?_⟩
        exact k _ p zs (OW.Same.upd_new s2 (s2.free hp)) (s2.free hp) upd_same (Rows.mono (OW.Same.upd_new (Same.refl _) hp) hzs)
end
end K65

set_option Elab.async false
set_option linter.all false
set_option maxRecDepth 100000
set_option maxHeartbeats 4000000
namespace K65
open PySem L2 OW
theorem hu65_of {k : Nat} {A : Around} (r : Room k A) : A.units + 65 < cLine := by
  have := r.un
  omega
def ltAt (r q : List Int) (i : Nat) : Bool := decide (r.getD i 0 < q.getD i 0)
def cov1 (r o : List Int) : Bool := (List.range (min r.length o.length)).all (leAt r o) && (List.range (min r.length o.length)).any (ltAt r o)
def covered (r : List Int) (rs : List (List Int)) : Bool := rs.any (cov1 r)
def dStep (rs : List (List Int)) (told : List (List Int)) (r : List Int) : List (List Int) := if (!decide (r ∈ told)) = true ∧ (!covered r rs) = true then told ++ [r] else told
def due (rs : List (List Int)) : List (List Int) := (rs.mergeSort fun p q => decide (p ≤ q)).foldl (dStep rs) []
def spCov (K : PySem.W.Frag) : Sp := fun vs H Q _ => ∃ (x : V) (a : Addr) (xs : List V) (r : List Int) (rs : List (List Int)), vs = [x, .ref a] ∧ Tp K H x r ∧ H a = some (.lst xs) ∧ Rows K H xs rs ∧ r.length ≤ 1000 ∧ ∀ H' : Hp, Same H H' → Q (.bl (covered r rs)) H'
/-- the two counters behind i places -/
structure Cnt (r o : List Int) (i : Nat) (w m : Int) : Prop where
  w0 : 0 ≤ w
  m0 : 0 ≤ m
  w1 : w = 0 ↔ ∀ j, j < i → r.getD j 0 ≤ o.getD j 0
  m1 : 0 < m ↔ ∃ j, j < i ∧ r.getD j 0 < o.getD j 0
theorem Cnt.start (r o : List Int) : Cnt r o 0 0 0 := ⟨Int.le_refl _, Int.le_refl _, ⟨fun _ j h => absurd h (Nat.not_lt_zero _), fun _ => rfl⟩, ⟨fun h => absurd h (by decide), fun ⟨j, h, _⟩ => absurd h (Nat.not_lt_zero _)⟩⟩
theorem Cnt.step {r o : List Int} {i : Nat} {w m : Int} (h : Cnt r o i w m) : Cnt r o (i + 1) (w + if o.getD i 0 < r.getD i 0 then 1 else 0) (m + if r.getD i 0 < o.getD i 0 then 1 else 0) := by
  obtain ⟨w0, m0, w1, m1⟩ := h
  refine ⟨by split <;> omega, by split <;> omega, ?_, ?_⟩
  · constructor
    · intro e j hj
      split at e
      · omega
      · rename_i hn
        rcases Nat.lt_succ_iff_lt_or_eq.mp hj with h | rfl
        · exact w1.mp (by omega) j h
        · omega
    · intro e
      have h1 := w1.mpr fun j hj => e j (Nat.lt_succ_of_lt hj)
      have h2 := e i (Nat.lt_succ_self i)
      rw [if_neg (by omega), h1]
      rfl
  · constructor
    · intro e
      split at e
      · rename_i hy
        exact ⟨i, Nat.lt_succ_self i, hy⟩
      · obtain ⟨j, h1, h2⟩ := m1.mp (by omega)
        exact ⟨j, Nat.lt_succ_of_lt h1, h2⟩
    · rintro ⟨j, h1, h2⟩
      rcases Nat.lt_succ_iff_lt_or_eq.mp h1 with h | rfl
      · have := m1.mpr ⟨j, h, h2⟩
        split <;> omega
      · rw [if_pos h2]
        omega
theorem Cnt.cov {r o : List Int} {w m : Int} (h : Cnt r o (min r.length o.length) w m) : cov1 r o = (decide (w = 0) && decide (0 < m)) := by
  obtain ⟨w0, m0, w1, m1⟩ := h
  have e1 : (List.range (min r.length o.length)).all (leAt r o) = decide (w = 0) := by
    rw [Bool.eq_iff_iff, List.all_eq_true, decide_eq_true_iff, w1]
    constructor
    · intro h j hj
      exact of_decide_eq_true (h j (List.mem_range.mpr hj))
    · intro h j hj
      exact decide_eq_true (h j (List.mem_range.mp hj))
  have e2 : (List.range (min r.length o.length)).any (ltAt r o) = decide (0 < m) := by
    rw [Bool.eq_iff_iff, List.any_eq_true, decide_eq_true_iff, m1]
    constructor
    · rintro ⟨j, h1, h2⟩
      exact ⟨j, List.mem_range.mp h1, of_decide_eq_true h2⟩
    · rintro ⟨j, h1, h2⟩
      exact ⟨j, List.mem_range.mpr h1, decide_eq_true h2⟩
  unfold cov1
  rw [e1, e2]
section
variable {P : Program} {w : World} {K : PySem.W.Frag} {mg : Str → Option Value} {base : Heap}
theorem ok_law_covered (T : Txt K mg) : FnOk P w K mg base CX0 1 T.a_law_covered T.d_law_covered ["row", "rows"] (spCov K) := by
  refine T.f_law_covered.ok sc_law_covered (fun vs H Q E h => ?_) (fun cdv A outer s H vs Q E hr h => ?_)
  · obtain ⟨x, a, xs, r, rs, rfl, _⟩ := h
    rfl
  · obtain ⟨x, a, xs, r, rs, rfl, hx, ha, hR, hl, k⟩ := h
    refine ⟨_, (Evl.pss_cut (ps_for PassesOwn.never rfl (pi_list (pv 1)) (pg_name (i := 2) sc_law_covered.nd rfl (by first | exact Or.inl rfl | exact Or.inr rfl))
      (pss_cons (ps_set (i := 3) sc_law_covered.nd rfl (by first | exact Or.inl rfl | exact Or.inr rfl) pe_int)
      (pss_cons (ps_set (i := 4) sc_law_covered.nd rfl (by first | exact Or.inl rfl | exact Or.inr rfl) pe_int)
      (Evl.pss_cut (ps_for PassesOwn.never rfl (RZ.pi_zipA rfl T.n_zip (pa_cons (pv 0) (pa_cons (pv 2) pa_nil))) (pg_tup (by rfl) (pgs_cons (pg_name (i := 5) sc_law_covered.nd rfl (by first | exact Or.inl rfl | exact Or.inr rfl)) (pgs_cons (pg_name (i := 6) sc_law_covered.nd rfl (by first | exact Or.inl rfl | exact Or.inr rfl)) pgs_nil)))
        (pss_cons (ps_aug (i := 3) sc_law_covered.nd rfl (by first | exact Or.inl rfl | exact Or.inr rfl) (pe_ifExp (pt_cmpR op_gt (pv 5) (pv 6) (nomark _)) pe_int pe_int) ip_add)
        (pss_one (ps_aug (i := 4) sc_law_covered.nd rfl (by first | exact Or.inl rfl | exact Or.inr rfl) (pe_ifExp (pt_cmpR op_lt (pv 5) (pv 6) (nomark _)) pe_int pe_int) ip_add))))
      (pss_one (ps_if (PW.pt (pw_and (pt_cmpR op_eq (pv 3) pe_int (nomark _)) (pw_and1 (pt_cmpR op_gt (pv 4) pe_int (nomark _)))))
        (pss_one (ps_ret pe_bl))
        pss_nil))))))
    (pss_one (ps_ret pe_bl))), ?_⟩
    have lx : xs.length = rs.length := Paired.len hR
    let PO : Nat → L2.St → Hp → Prop := fun i σ H' => ∃ o1 o2 o3 o4 o5 : Option V, σ = [some x, some (.ref a), o1, o2, o3, o4, o5] ∧ Same H H' ∧ (rs.take i).any (cov1 r) = false
    refine ⟨PO xs.length, ?_, ?_⟩
    · refine ⟨_, rfl, a, rfl, ⟨_, SqL.of ha⟩, for_list (K := K) (a := a) (xs := xs) PO ⟨none, none, none, none, none, rfl, Same.refl H, rfl⟩ (fun i σ H' _ h => ?_) ?_ (fun σ H' h => h)⟩
      · obtain ⟨_, _, _, _, _, _, s1, _⟩ := h
        exact SqL.of (s1 _ _ ha)
      · rintro i y σ H1 hy ⟨o1, o2, o3, o4, o5, rfl, s1, hno⟩
        obtain ⟨o, ho, hyo⟩ := hR.get hy
        have hi := (List.getElem?_eq_some_iff.mp hy).1
        obtain ⟨tx, rfl, htx⟩ := id hx
        obtain ⟨ty, rfl, hty⟩ := id hyo
        let PI : Nat → L2.St → Hp → Prop := fun j σ H' => ∃ (w m : Int) (o4 o5 : Option V), σ = [some (.ref tx), some (.ref a), some (.ref ty), some (.int w), some (.int m), o4, o5] ∧ Same H1 H' ∧ Cnt r o j w m
        refine ⟨PI (min r.length o.length), ?_, ?_⟩
        · refine ⟨_, rfl, _, rfl, tx, ty, r.map V.int, o.map V.int, rfl, .inr ⟨SqT.of (s1 _ _ htx), SqT.of (s1 _ _ hty), ?_⟩⟩
          refine for_it (walk_zipT (K := K) (a := tx) (b := ty) (xs := r.map V.int) (ys := o.map V.int) (n := min r.length o.length) (by rw [List.length_map, List.length_map])) PI ⟨0, 0, o4, o5, rfl, Same.refl _, Cnt.start r o⟩ (fun j σ H' _ h => ?_) ?_ (fun σ H' h => h)
          · obtain ⟨_, _, _, _, _, s2, _⟩ := h
            exact ⟨SqT.of (s2 _ _ (s1 _ _ htx)), SqT.of (s2 _ _ (s1 _ _ hty))⟩
          · rintro j z σ H2 H3 hj ⟨w, m, o4, o5, rfl, s2, hc⟩ ⟨t, u, v, rfl, ht, rfl, hu, hv⟩
            obtain ⟨rfl, _⟩ := get_int hu
            obtain ⟨rfl, _⟩ := get_int hv
            have hs := hc.step
            have s3 := OW.Same.upd_new (o := .tup [V.int (r.getD j 0), V.int (o.getD j 0)]) s2 (s2.free ht)
            refine ⟨t, _, rfl, SqT.of upd_same, rfl, _, _, rfl, _, _, rfl, rfl, ?_⟩
            refine ⟨_, rfl, _, rfl, _, rfl, _, _, rfl, rfl, _, rfl, ?_⟩
            refine ite2 (fun e => ?_) (fun e => ?_)
            · have e' := of_decide_eq_true e
              refine ⟨_, _, rfl, rfl, _, rfl, _, rfl, _, rfl, _, _, rfl, rfl, _, rfl, ?_⟩
              refine ite2 (fun f => ?_) (fun f => ?_)
              · have f' := of_decide_eq_true f
                rw [if_pos e', if_pos f'] at hs
                exact ⟨_, _, rfl, rfl, _, _, _, _, rfl, s3, hs⟩
              · have f' : ¬ r.getD j 0 < o.getD j 0 := fun z => f (decide_eq_true z)
                rw [if_pos e', if_neg f'] at hs
                exact ⟨_, _, rfl, rfl, _, _, _, _, rfl, s3, hs⟩
            · have e' : ¬ o.getD j 0 < r.getD j 0 := fun z => e (decide_eq_true z)
              refine ⟨_, _, rfl, rfl, _, rfl, _, rfl, _, rfl, _, _, rfl, rfl, _, rfl, ?_⟩
              refine ite2 (fun f => ?_) (fun f => ?_)
              · have f' := of_decide_eq_true f
                rw [if_neg e', if_pos f'] at hs
                exact ⟨_, _, rfl, rfl, _, _, _, _, rfl, s3, hs⟩
              · have f' : ¬ r.getD j 0 < o.getD j 0 := fun z => f (decide_eq_true z)
                rw [if_neg e', if_neg f'] at hs
                exact ⟨_, _, rfl, rfl, _, _, _, _, rfl, s3, hs⟩
        · rintro σ H2 ⟨w, m, o4, o5, rfl, s2, hc⟩
          have hcov := hc.cov
          refine ⟨_, rfl, rfl, _, rfl, ?_⟩
          refine ite2 (fun e => ?_) (fun e => ?_)
          · have e' : w = 0 := by
              have := of_decide_eq_true e
              injection this
            refine ⟨_, rfl, _, _, rfl, rfl, _, rfl, ?_⟩
            refine ite2 (fun f => ?_) (fun f => ?_)
            · have f' := of_decide_eq_true f
              rw [decide_eq_true e', decide_eq_true f'] at hcov
              have hcv : covered r rs = true := List.any_eq_true.mpr ⟨o, List.mem_of_getElem? ho, hcov⟩
              have z := k _ (s1.trans s2)
              rw [hcv] at z
              exact z
            · rw [decide_eq_false (fun z => f (decide_eq_true z)), Bool.and_false] at hcov
              refine ⟨_, _, _, _, _, rfl, s1.trans s2, ?_⟩
              rw [take_snoc ho, List.any_append, hno]
              simp [hcov]
          · have e' : ¬ w = 0 := fun z => e (decide_eq_true (by rw [z]))
            rw [decide_eq_false e', Bool.false_and] at hcov
            refine ⟨_, _, _, _, _, rfl, s1.trans s2, ?_⟩
            rw [take_snoc ho, List.any_append, hno]
            simp [hcov]
    · rintro σ H' ⟨o1, o2, o3, o4, o5, rfl, s1, hno⟩
      rw [lx, List.take_length] at hno
      have z := k _ s1
      rw [show covered r rs = false from hno] at z
      exact z
def spDue (K : PySem.W.Frag) : Sp := fun vs H Q _ => ∃ (a : Addr) (xs : List V) (rs : List (List Int)) (d : Nat), vs = [.ref a] ∧ H a = some (.lst xs) ∧ Rows K H xs rs ∧ (∀ r ∈ rs, r.length = d) ∧ d ≤ 1000 ∧ rs.length ≤ 1000 ∧
  ∀ (H' : Hp) (p : Addr) (ys : List V), Same H H' → H p = none → H' p = some (.lst ys) → Rows K H' ys (due rs) → Q (.ref p) H'
theorem any_tup (told : List (List Int)) (r : List Int) : ((told.map tupD).any fun z => PyData.eqv z (tupD r)) = decide (r ∈ told) := by
  rw [List.any_map, Bool.eq_iff_iff, List.any_eq_true, decide_eq_true_iff]
  constructor
  · rintro ⟨q, h1, h2⟩
    have h3 : PyData.eqv (tupD q) (tupD r) = true := h2
    rw [eqv_tup] at h3
    rw [← of_decide_eq_true h3]
    exact h1
  · intro h
    refine ⟨r, h, ?_⟩
    show PyData.eqv (tupD r) (tupD r) = true
    rw [eqv_tup]
    exact decide_eq_true rfl
theorem ok_law_due (T : Txt K mg) : FnOk P w K mg base CX0 2 T.a_law_due T.d_law_due ["rows"] (spDue K) := by
  refine T.f_law_due.ok sc_law_due (fun vs H Q E h => ?_) (fun cdv A outer s H vs Q E hr h => ?_)
  · obtain ⟨a, xs, rs, d, rfl, _⟩ := h
    rfl
  · obtain ⟨a, xs, rs, d, rfl, ha, hR, hd, d1, l1, k⟩ := h
    refine ⟨_, (pss_cons (ps_set (i := 1) sc_law_due.nd rfl (by first | exact Or.inl rfl | exact Or.inr rfl) (pe_lst pa_nil))
    (Evl.pss_cut (ps_for PassesOwn.never rfl (pi_list (pe_callB (cr_srt hr.units) (by rfl) T.n_sorted (by decide +kernel) (pa_cons (pv 0) pa_nil))) (pg_name (i := 2) sc_law_due.nd rfl (by first | exact Or.inl rfl | exact Or.inr rfl))
      (pss_one (ps_if (PW.pt (pw_and (pt_cmpR (op_notInD (hu65_of hr)) (pv 2) (pv 1) (by rfl)) (pw_and1 (pt_not (pt_val (pe_call (ok_law_covered T) (hr.mono (by decide)) rfl T.g_law_covered T.f_law_covered.kp T.b_law_covered .nil pass0 (pa_cons (pv 2) (pa_cons (pv 0) pa_nil))))))))
        (pss_one (ps_expr (pe_bm PySem.F.plainAttrs_list PySem.F.slot_list_append PySem.F.type_list_append mt_append (pv 1) (pa_cons (pv 2) pa_nil))))
        pss_nil)))
    (pss_one (ps_ret (pv 1))))), ?_⟩
    refine ⟨Nat.zero_le _, fun G hG => ?_⟩
    have naG : a ≠ G := ne_of_none ha hG
    let srt := rs.mergeSort fun p q => decide (p ≤ q)
    have dsrt : ∀ r ∈ srt, r.length = d := fun r hr' => hd r (List.mem_mergeSort.mp hr')
    have lsrt : srt.length ≤ 1000 := by
      have h1 : srt.length = rs.length := List.length_mergeSort _
      omega
    let PO : Addr → List V → Nat → L2.St → Hp → Prop := fun S ys i σ H' => ∃ (gs : List V) (v : Option V), σ = [some (.ref a), some (.ref G), v] ∧ Same H H' ∧ H' S = some (.lst ys) ∧ H' G = some (.lst gs) ∧ Rows K H' gs ((srt.take i).foldl (dStep rs) []) ∧ Rows K H' ys srt ∧ gs.length ≤ i ∧ S ≠ G
    refine ⟨fun σ H' => ∃ S ys, ys.length = srt.length ∧ PO S ys ys.length σ H', ?_, ?_⟩
    · refine ⟨_, rfl, a, xs, rs, d, rfl, SqL.of ((upd_ne naG).trans ha), Rows.mono (OW.Same.upd_new (Same.refl _) hG) hR, hd, fun ys S hys hS => ?_⟩
      have lys : ys.length = srt.length := Paired.len hys
      have nSG : S ≠ G := fun e => by
        rw [e, upd_same] at hS
        cases hS
      have hS1 : H S = none := by
        rw [upd_ne nSG] at hS
        exact hS
      refine ⟨S, rfl, ⟨_, SqL.of upd_same⟩, for_list (K := K) (a := S) (xs := ys) (PO S ys) ⟨[], none, rfl, ?_, upd_same, ?_, .nil, ?_, Nat.le_refl _, nSG⟩ (fun i σ H' _ h => ?_) ?_ (fun σ H' h => ⟨S, ys, lys, h⟩)⟩
      · exact OW.Same.upd_new (OW.Same.upd_new (Same.refl _) hG) hS1
      · rw [upd_ne nSG.symm]
        exact upd_same
      · exact Rows.mono (OW.Same.upd_new (Same.refl _) hS) hys
      · obtain ⟨_, _, _, _, h, _⟩ := h
        exact SqL.of h
      · rintro i x σ H' hx ⟨gs, v, rfl, s2, hSl, hGl, hgs, hy, hlg, _⟩
        obtain ⟨r, hr', hxr⟩ := hy.get hx
        have hi := (List.getElem?_eq_some_iff.mp hx).1
        have rlen := dsrt r (List.mem_of_getElem? hr')
        refine ⟨_, rfl, _, rfl, tupD r, _, hxr.dp, .lst (SqL.of hGl) hgs.dp, shaped_tup r, shaped_rows _, _, rfl, ?_⟩
        rw [any_tup]
        have stay : ∀ H3 : Hp, Same H' H3 → dStep rs ((srt.take i).foldl (dStep rs) []) r = (srt.take i).foldl (dStep rs) [] → PO S ys (i + 1) [some (.ref a), some (.ref G), some x] H3 := fun H3 s3 e => by
          refine ⟨gs, _, rfl, s2.trans s3, s3 _ _ hSl, s3 _ _ hGl, ?_, hy.mono s3, by omega, nSG⟩
          rw [take_snoc hr', List.foldl_append]
          show Rows K H3 gs (dStep rs _ r)
          rw [e]
          exact hgs.mono s3
        refine ite2 (fun e => ?_) (fun e => ?_)
        · refine ⟨_, rfl, _, rfl, x, a, xs, r, rs, rfl, hxr, s2 _ _ ha, hR.mono s2, by omega, fun H3 s3 => ⟨_, rfl, ?_⟩⟩
          refine ite2 (fun f => ?_) (fun f => ?_)
          · refine ⟨_, rfl, .inl ⟨rfl, _, SqL.of (s3 _ _ hGl)⟩, _, rfl, G, gs, x, rfl, rfl, s3 _ _ hGl, small1000 (by omega), ?_⟩
            refine ⟨gs ++ [x], _, rfl, fun b o eb => ?_, ?_, upd_same, ?_, rows_updL (s3 _ _ hGl) (hy.mono s3), ?_, nSG⟩
            · rw [upd_ne (ne_of_none eb hG)]
              exact s3 _ _ (s2 _ _ eb)
            · rw [upd_ne nSG]
              exact s3 _ _ hSl
            · rw [take_snoc hr', List.foldl_append]
              show Rows K _ _ (dStep rs _ r)
              unfold dStep
              rw [if_pos ⟨e, f⟩]
              exact rows_updL (s3 _ _ hGl) ((hgs.mono s3).snoc (hxr.mono s3))
            · rw [List.length_append, List.length_singleton]
              omega
          · refine stay H3 s3 ?_
            unfold dStep
            rw [if_neg (fun z => f z.2)]
        · refine stay H' (Same.refl _) ?_
          unfold dStep
          rw [if_neg (fun z => e z.1)]
    · rintro σ H' ⟨S, ys, lys, gs, v, rfl, s2, hSl, hGl, hgs, hy, hlg, nSG⟩
      rw [lys, List.take_length] at hgs
      exact ⟨_, rfl, k _ G gs s2 hG hGl hgs⟩
end
end K65

set_option Elab.async false
set_option linter.all false
set_option maxRecDepth 100000
set_option maxHeartbeats 4000000
namespace K65
open PySem L2 OW
/-! ### slices and sums of rows -/
def cutI (r : List Int) (lo hi : Option Int) : List Int := (r.drop (HT.sIx r.length 0 lo)).take (HT.sIx r.length r.length hi - HT.sIx r.length 0 lo)
theorem cutI_map (r : List Int) (lo hi : Option Int) : cutV (r.map V.int) lo hi = (cutI r lo hi).map V.int := by
  unfold cutV cutI
  rw [List.length_map, ← List.map_drop, ← List.map_take]
theorem cutI_all {r : List Int} {lo hi : Option Int} (h : HT.sIx r.length 0 lo = 0 ∧ HT.sIx r.length r.length hi = r.length) : cutI r lo hi = r := by
  unfold cutI
  rw [h.1, h.2, List.drop_zero, Nat.sub_zero, List.take_length]
theorem cutI_to (r : List Int) (k : Nat) (h : k ≤ r.length) : cutI r none (some (k : Int)) = r.take k := by
  unfold cutI
  rw [HT.sIx_none, HT.sIx_nat, List.drop_zero, Nat.sub_zero, Nat.min_eq_left h]
theorem cutI_from (r : List Int) (k : Nat) (h : k ≤ r.length) : cutI r (some (k : Int)) none = r.drop k := by
  unfold cutI
  rw [HT.sIx_none, HT.sIx_nat, Nat.min_eq_left h, List.take_of_length_le]
  rw [List.length_drop]
  omega
theorem sl_row {K : PySem.W.Frag} {H : Hp} {x : V} {r : List Int} {lo hi : Option Int} {Q : VK} (hx : Tp K H x r) (h : ∀ (v : V) (H' : Hp), Same H H' → Tp K H' v (cutI r lo hi) → Q v H') : rSlA K x lo hi H Q := by
  obtain ⟨a, rfl, ha⟩ := hx
  refine ⟨a, _, rfl, SqT.of ha, fun w => ?_, fun _ p hp => ?_⟩
  · rw [List.length_map] at w
    exact h _ H (Same.refl H) (by rw [cutI_all w]; exact ⟨a, rfl, ha⟩)
  · exact h _ _ (OW.Same.upd_new (Same.refl H) hp) ⟨p, rfl, by rw [upd_same, cutI_map]⟩
theorem cat_row {K : PySem.W.Frag} {H : Hp} {x y : V} {r q : List Int} {Q : VK} (hx : Tp K H x r) (hy : Tp K H y q) (hl : r.length + q.length ≤ 1000) (h : ∀ (v : V) (H' : Hp), Same H H' → Tp K H' v (r ++ q) → Q v H') : rCatA K x y H Q := by
  obtain ⟨a, rfl, ha⟩ := hx
  obtain ⟨b, rfl, hb⟩ := hy
  refine ⟨a, b, _, _, rfl, rfl, SqT.of ha, SqT.of hb, ?_, fun e => ?_, fun _ e => ?_, fun _ _ p hp => ?_⟩
  · rw [List.length_map, List.length_map]
    exact Nat.le_of_lt (small1000 hl)
  · have e' : r = [] := by
      cases r with
      | nil => rfl
      | cons _ _ => cases e
    exact h _ H (Same.refl H) (by rw [e']; exact ⟨b, rfl, hb⟩)
  · have e' : q = [] := by
      cases q with
      | nil => rfl
      | cons _ _ => cases e
    exact h _ H (Same.refl H) (by rw [e', List.append_nil]; exact ⟨a, rfl, ha⟩)
  · exact h _ _ (OW.Same.upd_new (Same.refl H) hp) ⟨p, rfl, by rw [upd_same, List.map_append]⟩
/-- a row stays where only the box turned -/
theorem Tp.fr2 {K : PySem.W.Frag} {b c : Addr} {H H' : Hp} {x : V} {r : List Int} (B : Box b c H) (f : Fr2 b c H H') (h : Tp K H x r) : Tp K H' x r := by
  obtain ⟨a, e, ha⟩ := h
  obtain ⟨i, p, cs, hb, hc, _⟩ := B
  exact ⟨a, e, f _ _ (ne_of ha hb fun z => by cases z) (ne_of ha hc fun z => by cases z) ha⟩
theorem Rows.fr2 {K : PySem.W.Frag} {b c : Addr} {H H' : Hp} {xs : List V} {rs : List (List Int)} (B : Box b c H) (f : Fr2 b c H H') (h : Rows K H xs rs) : Rows K H' xs rs :=
  Paired.mapP h fun _ _ q => Tp.fr2 B f q
/-- no number of a row is too great -/
def Bd (n : Nat) (r : List Int) : Prop := ∀ x ∈ r, x.natAbs ≤ 10 ^ 21 + n
theorem Bd.mono {n m : Nat} {r : List Int} (h : Bd n r) (l : n ≤ m) : Bd m r := fun x hx => Nat.le_trans (h x hx) (by omega)
/-- the rows so far -/
structure Core (K : PySem.W.Frag) (b c p : Addr) (H H' : Hp) (xs : List V) (rs : List (List Int)) : Prop where
  box : Box b c H'
  fr : Fr2 b c H H'
  lst : H' p = some (.lst xs)
  rows : Rows K H' xs rs
theorem Core.turn {K : PySem.W.Frag} {b c p : Addr} {H H' H2 : Hp} {xs : List V} {rs : List (List Int)} (h : Core K b c p H H' xs rs) (npb : p ≠ b) (npc : p ≠ c) (B : Box b c H2) (f : Fr2 b c H' H2) : Core K b c p H H2 xs rs :=
  ⟨B, h.fr.trans f, f _ _ npb npc h.lst, Rows.fr2 h.box f h.rows⟩
theorem Core.same {K : PySem.W.Frag} {b c p : Addr} {H H' H2 : Hp} {xs : List V} {rs : List (List Int)} (h : Core K b c p H H' xs rs) (s : Same H' H2) : Core K b c p H H2 xs rs :=
  ⟨h.box.same s, h.fr.trans (.of s), s _ _ h.lst, h.rows.mono s⟩
theorem mem_row {K : PySem.W.Frag} {H : Hp} {xs : List V} {rs : List (List Int)} {v : V} (h : Rows K H xs rs) (hv : v ∈ xs) : ∃ r, r ∈ rs ∧ Tp K H v r := by
  obtain ⟨i, hi, e⟩ := List.mem_iff_getElem.mp hv
  obtain ⟨r, h1, h2⟩ := h.get (i := i) (by rw [List.getElem?_eq_getElem hi, e])
  exact ⟨r, List.mem_of_getElem? h1, h2⟩
def spDrawn (K : PySem.W.Frag) : Sp := fun vs H Q _ => ∃ (b c : Addr), vs = [.ref b] ∧ Box b c H ∧
  ∀ (H' : Hp) (p : Addr) (xs : List V) (rs : List (List Int)) (d : Nat), Core K b c p H H' xs rs → H p = none → (∀ r ∈ rs, r.length = d) → d ≤ 6 → 0 < rs.length → rs.length ≤ 40 → (∀ r ∈ rs, Bd 40 r) → Q (.ref p) H'
section
variable {P : Program} {w : World} {K : PySem.W.Frag} {mg : Str → Option Value} {base : Heap}
theorem ok_law_drawn (T : Txt K mg) : FnOk P w K mg base CX0 3 T.a_law_drawn T.d_law_drawn ["box"] (spDrawn K) := by
  refine T.f_law_drawn.ok sc_law_drawn (fun vs H Q E h => ?_) (fun cdv A outer s H vs Q E hr h => ?_)
  · obtain ⟨b, c, rfl, _⟩ := h
    rfl
  · obtain ⟨b, c, rfl, hB, k⟩ := h
    refine ⟨_, (pss_cons (ps_set (i := 1) sc_law_drawn.nd rfl (by first | exact Or.inl rfl | exact Or.inr rfl) (pe_op op_add pe_int (pe_call (ok_law_take T) (hr.mono (by decide)) rfl T.g_law_take T.f_law_take.kp T.b_law_take .nil pass0 (pa_cons (pv 0) (pa_cons pe_int pa_nil)))))
    (pss_cons (ps_set (i := 2) sc_law_drawn.nd rfl (by first | exact Or.inl rfl | exact Or.inr rfl) (pe_call (ok_law_pick T) (hr.mono (by decide)) rfl T.g_law_pick T.f_law_pick.kp T.b_law_pick .nil pass0 (pa_cons (pv 0) (pa_cons (pe_lst (pa_cons pe_int (pa_cons pe_int (pa_cons pe_int (pa_cons pe_int (pa_cons pe_int (pa_cons pe_int (pa_cons pe_int pa_nil)))))))) pa_nil))))
    (pss_cons (ps_set (i := 3) sc_law_drawn.nd rfl (by first | exact Or.inl rfl | exact Or.inr rfl) (pe_call (ok_law_pick T) (hr.mono (by decide)) rfl T.g_law_pick T.f_law_pick.kp T.b_law_pick .nil pass0 (pa_cons (pv 0) (pa_cons (pe_lst (pa_cons pe_int (pa_cons pe_int (pa_cons pe_int (pa_cons pe_int (pa_cons (pe_op op_pow pe_int pe_int) pa_nil)))))) pa_nil))))
    (pss_cons (ps_set (i := 4) sc_law_drawn.nd rfl (by first | exact Or.inl rfl | exact Or.inr rfl) (pe_call (ok_law_pick T) (hr.mono (by decide)) rfl T.g_law_pick T.f_law_pick.kp T.b_law_pick .nil pass0 (pa_cons (pv 0) (pa_cons (pe_lst (pa_cons pe_int (pa_cons pe_int (pa_cons pe_int (pa_cons pe_int (pa_cons (pe_op op_pow pe_int pe_int) pa_nil)))))) pa_nil))))
    (pss_cons (ps_set (i := 5) sc_law_drawn.nd rfl (by first | exact Or.inl rfl | exact Or.inr rfl) (pe_lst pa_nil))
    (Evl.pss_cut (ps_for PassesOwn.never rfl (pi_range1 rfl T.n_range (pa_cons (pv 1) pa_nil)) (pg_name (i := 6) sc_law_drawn.nd rfl (by first | exact Or.inl rfl | exact Or.inr rfl))
      (pss_cons (ps_set (i := 7) sc_law_drawn.nd rfl (by first | exact Or.inl rfl | exact Or.inr rfl) (pe_call (ok_law_take T) (hr.mono (by decide)) rfl T.g_law_take T.f_law_take.kp T.b_law_take .nil pass0 (pa_cons (pv 0) (pa_cons pe_int pa_nil))))
      (pss_cons (ps_set (i := 8) sc_law_drawn.nd rfl (by first | exact Or.inl rfl | exact Or.inr rfl) (pe_callTy call_tuple_of (by rfl) T.n_tuple (by decide +kernel) (pa_cons (pe_lc (own := [("k", 11)]) (g := gName 11) rfl sc_law_drawn.nd (pi_range1 rfl T.n_range (pa_cons (pv 2) pa_nil)) (blkOk_by (N := N_law_drawn) (sc := defScope s_law_drawn) (by decide +kernel)) (fun _ _ _ _ _ => pg_name (i := 11) sc_law_drawn.nd rfl (Or.inl rfl)) (fun _ _ _ _ _ => pts_nil) (fun _ _ _ _ _ => (pe_op op_sub (pe_call (ok_law_take T) (hr.mono (by decide)) rfl T.g_law_take T.f_law_take.kp T.b_law_take .nil pass0 (pa_cons (pv 0) (pa_cons (pv 3) pa_nil))) (pv 4)))) pa_nil)))
      (Evl.pss_cut (ps_if (PW.pt (pw_and (pt_truth (pv 5) (by intro _; rfl)) (pw_and1 (pt_cmpR op_eq (pv 7) pe_int (nomark _)))))
        (pss_one (ps_set (i := 8) sc_law_drawn.nd rfl (by first | exact Or.inl rfl | exact Or.inr rfl) (pe_call (ok_law_pick T) (hr.mono (by decide)) rfl T.g_law_pick T.f_law_pick.kp T.b_law_pick .nil pass0 (pa_cons (pv 0) (pa_cons (pv 5) pa_nil)))))
        pss_nil)
      (Evl.pss_cut (ps_if (PW.pt (pw_and (pt_truth (pv 5) (by intro _; rfl)) (pw_and (pt_truth (pv 2) (by intro _; rfl)) (pw_and1 (pt_cmpR op_eq (pv 7) pe_int (nomark _))))))
        (pss_cons (ps_set (i := 9) sc_law_drawn.nd rfl (by first | exact Or.inl rfl | exact Or.inr rfl) (pe_call (ok_law_pick T) (hr.mono (by decide)) rfl T.g_law_pick T.f_law_pick.kp T.b_law_pick .nil pass0 (pa_cons (pv 0) (pa_cons (pv 5) pa_nil))))
        (pss_cons (ps_set (i := 10) sc_law_drawn.nd rfl (by first | exact Or.inl rfl | exact Or.inr rfl) (pe_call (ok_law_take T) (hr.mono (by decide)) rfl T.g_law_take T.f_law_take.kp T.b_law_take .nil pass0 (pa_cons (pv 0) (pa_cons (pv 2) pa_nil))))
        (pss_one (ps_set (i := 8) sc_law_drawn.nd rfl (by first | exact Or.inl rfl | exact Or.inr rfl) (pe_op op_catA (pe_op op_catA (pe_slice sl_tupA (pv 9) po_none (po_some (pv 10))) (pe_tup (pa_cons (pe_op op_sub (pe_op op_add (pe_ix ix_tup (pv 9) (pv 10) (fun _ _ => rfl)) (pe_call (ok_law_take T) (hr.mono (by decide)) rfl T.g_law_take T.f_law_take.kp T.b_law_take .nil pass0 (pa_cons (pv 0) (pa_cons pe_int pa_nil)))) pe_int) pa_nil))) (pe_slice sl_tupA (pv 9) (po_some (pe_op op_add (pv 10) pe_int)) po_none))))))
        pss_nil)
      (Evl.pss_cut (ps_if (PW.pt (pw_and (pt_truth (pv 5) (by intro _; rfl)) (pw_and (pt_cmpR op_gt (pv 2) pe_int (nomark _)) (pw_and1 (pt_cmpR op_eq (pv 7) pe_int (nomark _))))))
        (pss_cons (ps_set (i := 9) sc_law_drawn.nd rfl (by first | exact Or.inl rfl | exact Or.inr rfl) (pe_call (ok_law_pick T) (hr.mono (by decide)) rfl T.g_law_pick T.f_law_pick.kp T.b_law_pick .nil pass0 (pa_cons (pv 0) (pa_cons (pv 5) pa_nil))))
        (pss_one (ps_set (i := 8) sc_law_drawn.nd rfl (by first | exact Or.inl rfl | exact Or.inr rfl) (pe_op op_catA (pe_slice sl_tupA (pv 9) (po_some pe_int) po_none) (pe_slice sl_tupA (pv 9) po_none (po_some pe_int))))))
        pss_nil)
      (pss_one (ps_expr (pe_bm PySem.F.plainAttrs_list PySem.F.slot_list_append PySem.F.type_list_append mt_append (pv 5) (pa_cons (pv 8) pa_nil))))))))))
    (pss_one (ps_ret (pv 5))))))))), ?_⟩
    have bneq : ∀ {H1 : Hp} {l : Addr}, Box b c H1 → H1 l = none → l ≠ b ∧ l ≠ c := fun {H1 l} B hl => by
      obtain ⟨i, p, cs, hb, hc, _⟩ := B
      exact ⟨(ne_of_none hb hl).symm, (ne_of_none hc hl).symm⟩
    have isin : ∀ {zs : List Int} {v : V}, v ∈ zs.map V.int → ∃ z, v = .int z ∧ z ∈ zs := fun {zs v} h => by
      obtain ⟨z, h1, h2⟩ := List.mem_map.mp h
      exact ⟨z, h2.symm, h1⟩
    -- many
    refine ⟨_, rfl, b, c, 40, rfl, hB, by decide, by decide, fun H1 many hB1 f1 m0 m1 => ⟨_, _, rfl, rfl, ?_⟩⟩
    -- size
    refine ⟨_, rfl, by decide, fun l1 hl1 => ?_⟩
    refine ⟨b, c, l1, [3, 2, 1, 0, 4, 5, 6].map V.int, rfl, hB1.same (OW.Same.upd_new (Same.refl _) hl1), (bneq hB1 hl1).1, (bneq hB1 hl1).2, upd_same, by decide, by decide, fun H2 v2 hB2 f2 hv2 => ?_⟩
    obtain ⟨size, rfl, hsz⟩ := isin hv2
    have sz : 0 ≤ size ∧ size ≤ 6 := by
      simp only [List.mem_cons, List.mem_nil_iff, or_false] at hsz
      omega
    have F2 : Fr2 b c H H2 := (f1.trans (.of (OW.Same.upd_new (Same.refl _) hl1))).trans f2
    -- wide
    refine ⟨_, rfl, _, _, rfl, rfl, ⟨by decide, by decide, by decide⟩, by decide, fun l2 hl2 => ?_⟩
    refine ⟨b, c, l2, [4, 4, 3, 2, 10 ^ 20].map V.int, rfl, hB2.same (OW.Same.upd_new (Same.refl _) hl2), (bneq hB2 hl2).1, (bneq hB2 hl2).2, upd_same, by decide, by decide, fun H3 v3 hB3 f3 hv3 => ?_⟩
    obtain ⟨wide, rfl, hwd⟩ := isin hv3
    have wd : 0 < wide ∧ wide ≤ 10 ^ 20 := by
      simp only [List.mem_cons, List.mem_nil_iff, or_false] at hwd
      omega
    have F3 : Fr2 b c H H3 := (F2.trans (.of (OW.Same.upd_new (Same.refl _) hl2))).trans f3
    -- low
    refine ⟨_, rfl, _, _, rfl, rfl, ⟨by decide, by decide, by decide⟩, by decide, fun l3 hl3 => ?_⟩
    refine ⟨b, c, l3, [0, 0, 0, 2, 10 ^ 19].map V.int, rfl, hB3.same (OW.Same.upd_new (Same.refl _) hl3), (bneq hB3 hl3).1, (bneq hB3 hl3).2, upd_same, by decide, by decide, fun H4 v4 hB4 f4 hv4 => ?_⟩
    obtain ⟨low, rfl, hlw⟩ := isin hv4
    have lw : 0 ≤ low ∧ low ≤ 10 ^ 19 := by
      simp only [List.mem_cons, List.mem_nil_iff, or_false] at hlw
      omega
    have F4 : Fr2 b c H H4 := (F3.trans (.of (OW.Same.upd_new (Same.refl _) hl3))).trans f4
    -- rows
    refine ⟨Nat.zero_le _, fun p hp => ?_⟩
    obtain ⟨npb, npc⟩ := bneq hB4 hp
    have hpH : H p = none := by
      cases q : H p with
      | none => rfl
      | some o =>
        rw [F4 _ _ npb npc q] at hp
        cases hp
    let PO : Nat → L2.St → Hp → Prop := fun i σ H' => ∃ (o6 o7 o8 o9 o10 : Option V) (xs : List V) (rs : List (List Int)), σ = [some (.ref b), some (.int (1 + many)), some (.int size), some (.int wide), some (.int low), some (.ref p), o6, o7, o8, o9, o10, none] ∧
      Core K b c p H H' xs rs ∧ (∀ r ∈ rs, r.length = size.toNat) ∧ rs.length = i ∧ (∀ r ∈ rs, Bd i r)
    refine ⟨PO (1 + many).toNat, ?_, ?_⟩
    · refine ⟨_, rfl, _, rfl, by omega, by omega, for_range (lo := 0) (n := (1 + many).toNat) PO ⟨none, none, none, none, none, [], [], rfl, ⟨hB4.same (OW.Same.upd_new (Same.refl _) hp), F4.trans (.of (OW.Same.upd_new (Same.refl _) hp)), upd_same, .nil⟩, (by intro r h; cases h), rfl, (by intro r h; cases h)⟩ ?_ (fun σ H' h => h)⟩
      rintro i σ H5 hi ⟨o6, o7, o8, o9, o10, xs, rs, rfl, C5, hd, hl, hb⟩
      have lxs : xs.length = i := (Paired.len C5.rows).trans hl
      -- way
      refine ⟨_, rfl, b, c, 4, rfl, C5.box, by decide, by decide, fun H6 way hB6 f6 w0 w1 => ?_⟩
      have C6 := C5.turn npb npc hB6 f6
      -- row
      refine ⟨_, rfl, _, rfl, by omega, by omega, fun D hD => ?_⟩
      obtain ⟨nDb, nDc⟩ := bneq hB6 hD
      have nDp : p ≠ D := ne_of_none C6.lst hD
      refine lc_range (lo := 0) (n := size.toNat) (fun j H' => Core K b c p H H' xs rs ∧ ∃ zs : List Int, H' D = some (.lst (zs.map V.int)) ∧ zs.length = j ∧ Bd 0 zs) ⟨C6.same (OW.Same.upd_new (Same.refl _) hD), [], upd_same, rfl, (by intro x hx; cases hx)⟩ ?_ ?_
      · rintro j H7 hj ⟨C7, zs, hz, lz, bz⟩
        refine ⟨rfl, _, rfl, _, rfl, b, c, wide, rfl, C7.box, wd.1, by omega, fun H8 t hB8 f8 t0 t1 => ⟨_, rfl, _, _, rfl, rfl, _, f8 _ _ nDb nDc hz, ?_, ?_⟩⟩
        · rw [List.length_map]
          exact small1000 (by omega)
        · have C8 := C7.turn npb npc hB8 f8
          have hz8 := f8 _ _ nDb nDc hz
          refine ⟨⟨?_, fun a o h1 h2 h3 => ?_, ?_, rows_updL hz8 C8.rows⟩, zs ++ [t - low], ?_, ?_, ?_⟩
          · obtain ⟨ii, pp, cs, g1, g2, g3⟩ := hB8
            exact ⟨ii, pp, cs, by rw [upd_ne nDb.symm]; exact g1, by rw [upd_ne nDc.symm]; exact g2, g3⟩
          · have nHD : H D = none := by
              cases q : H D with
              | none => rfl
              | some o =>
                rw [C6.fr _ _ nDb nDc q] at hD
                cases hD
            rw [upd_ne (ne_of_none h3 nHD)]
            exact C8.fr a o h1 h2 h3
          · rw [upd_ne nDp]
            exact C8.lst
          · rw [upd_same, List.map_append]
            rfl
          · rw [List.length_append, List.length_singleton, lz]
          · intro x hx
            rcases List.mem_append.mp hx with hx | hx
            · exact bz x hx
            · rw [List.mem_singleton.mp hx]
              omega
      · rintro H7 ⟨C7, zs, hz, lz, bz⟩
        refine ⟨D, _, rfl, .inl ⟨SqL.of hz, fun l hl7 => ?_⟩⟩
        -- what the three ifs keep
        let M : L2.St → Hp → Prop := fun σ H' => ∃ (o6 o9 o10 : Option V) (x : V) (r : List Int), σ = [some (.ref b), some (.int (1 + many)), some (.int size), some (.int wide), some (.int low), some (.ref p), o6, some (.int way), some x, o9, o10, none] ∧
          Core K b c p H H' xs rs ∧ Tp K H' x r ∧ r.length = size.toNat ∧ Bd (i + 1) r
        have pickRow : ∀ {H8 H9 : Hp} {v : V}, Core K b c p H H8 xs rs → Box b c H9 → Fr2 b c H8 H9 → v ∈ xs → ∃ q, q ∈ rs ∧ Tp K H9 v q ∧ q.length = size.toNat ∧ Bd i q := fun {H8 H9 v} C B f hv => by
          obtain ⟨q, h1, h2⟩ := mem_row C.rows hv
          exact ⟨q, h1, Tp.fr2 C.box f h2, hd q h1, hb q h1⟩
        refine ⟨M, ?_, ?_⟩
        · have s7 : Same H7 (upd H7 l (.tup (zs.map V.int))) := OW.Same.upd_new (Same.refl _) hl7
          have C8 := C7.same s7
          have m0 : M [some (.ref b), some (.int (1 + many)), some (.int size), some (.int wide), some (.int low), some (.ref p), some (.int (0 + i)), some (.int way), some (.ref l), o9, o10, none] (upd H7 l (.tup (zs.map V.int))) :=
            ⟨_, _, _, .ref l, zs, rfl, C8, ⟨l, rfl, upd_same⟩, lz, bz.mono (Nat.zero_le _)⟩
          refine ⟨_, rfl, _, .inl ⟨_, SqL.of C8.lst, rfl⟩, ?_⟩
          refine ite2 (fun e => ?_) (fun _ => m0)
          refine ⟨_, rfl, rfl, _, rfl, ?_⟩
          refine ite2 (fun _ => ?_) (fun _ => m0)
          have ne0 : 0 < xs.length := by
            cases xs with
            | nil => cases e
            | cons _ _ => exact Nat.succ_pos _
          refine ⟨_, rfl, _, rfl, b, c, p, xs, rfl, C8.box, npb, npc, C8.lst, ne0, by omega, fun H9 v hB9 f9 hv => ?_⟩
          obtain ⟨q, q1, q2, q3, q4⟩ := pickRow C8 hB9 f9 hv
          exact ⟨_, _, _, v, q, rfl, C8.turn npb npc hB9 f9, q2, q3, q4.mono (Nat.le_succ _)⟩
        · rintro σ H8 ⟨o6, o9, o10, x, r, rfl, C8, hx, lr, br⟩
          refine ⟨M, ?_, ?_⟩
          · have m0 : M [some (.ref b), some (.int (1 + many)), some (.int size), some (.int wide), some (.int low), some (.ref p), o6, some (.int way), some x, o9, o10, none] H8 := ⟨_, _, _, x, r, rfl, C8, hx, lr, br⟩
            refine ⟨_, rfl, _, .inl ⟨_, SqL.of C8.lst, rfl⟩, ?_⟩
            refine ite2 (fun e => ?_) (fun _ => m0)
            refine ⟨_, rfl, _, rfl, ?_⟩
            refine ite2 (fun e2 => ?_) (fun _ => m0)
            refine ⟨_, rfl, rfl, _, rfl, ?_⟩
            refine ite2 (fun _ => ?_) (fun _ => m0)
            have ne0 : 0 < xs.length := by
              cases xs with
              | nil => cases e
              | cons _ _ => exact Nat.succ_pos _
            have sz0 : size ≠ 0 := by
              intro z
              rw [z] at e2
              cases e2
            refine ⟨_, rfl, _, rfl, b, c, p, xs, rfl, C8.box, npb, npc, C8.lst, ne0, by omega, fun H9 v hB9 f9 hv => ?_⟩
            obtain ⟨q, q1, q2, q3, q4⟩ := pickRow C8 hB9 f9 hv
            have C9 := C8.turn npb npc hB9 f9
            refine ⟨_, rfl, _, rfl, b, c, size, rfl, C9.box, by omega, by omega, fun H10 t hB10 f10 t0 t1 => ?_⟩
            have C10 := C9.turn npb npc hB10 f10
            have q10 := Tp.fr2 hB9 f10 q2
            obtain ⟨k, rfl⟩ : ∃ k : Nat, t = (k : Int) := ⟨t.toNat, by omega⟩
            have hk : k < q.length := by omega
            refine ⟨_, rfl, _, rfl, _, rfl, sl_row q10 fun v1 H11 s11 h11 => ?_⟩
            rw [cutI_to q k (by omega)] at h11
            have C11 := C10.same s11
            have q11 := q10.mono s11
            obtain ⟨qa, eqa, hqa⟩ := id q11
            refine ⟨_, rfl, _, rfl, qa, q.map V.int, k, .int q[k], eqa, rfl, SqT.of hqa, at_of rfl (by rw [List.getElem?_map, List.getElem?_eq_getElem hk]; rfl), ?_⟩
            refine ⟨_, rfl, b, c, 3, rfl, C11.box, by decide, by decide, fun H12 u hB12 f12 u0 u1 => ⟨_, _, rfl, rfl, _, _, rfl, rfl, (by show 1 ≤ sizeLine; decide), fun l2 hl2 => ?_⟩⟩
            have C12 := C11.turn npb npc hB12 f12
            have s13 : Same H12 (upd H12 l2 (.tup [.int (q[k] + u - 1)])) := OW.Same.upd_new (Same.refl _) hl2
            have h13 := (Tp.fr2 C11.box f12 h11).mono s13
            refine cat_row h13 (q := [q[k] + u - 1]) ⟨l2, rfl, upd_same⟩ (by rw [List.length_take, List.length_singleton]; omega) fun v2 H14 s14 h14 => ?_
            have q14 := ((Tp.fr2 C11.box f12 q11).mono s13).mono s14
            refine ⟨_, rfl, _, rfl, _, _, rfl, rfl, _, rfl, ?_⟩
            dsimp only [tNoPart]
            refine sl_row (lo := some ((k : Int) + 1)) (hi := none) q14 (fun v3 H15 s15 h15 => ?_)
            have ek : ((k : Int) + 1) = ((k + 1 : Nat) : Int) := by omega
            rw [ek, cutI_from q (k + 1) (by omega)] at h15
            refine cat_row (h14.mono s15) h15 (by rw [List.length_append, List.length_take, List.length_singleton, List.length_drop]; omega) fun v4 H16 s16 h16 => ?_
            refine ⟨_, _, _, v4, _, rfl, (((C12.same s13).same s14).same s15).same s16, h16, ?_, fun y hy => ?_⟩
            · rw [List.length_append, List.length_append, List.length_take, List.length_singleton, List.length_drop]
              omega
            · have mq : ∀ y ∈ q, y.natAbs ≤ 10 ^ 21 + i := q4
              rcases List.mem_append.mp hy with hy | hy
              · rcases List.mem_append.mp hy with hy | hy
                · have := mq y (List.mem_of_mem_take hy)
                  omega
                · rw [List.mem_singleton.mp hy]
                  have := mq q[k] (List.getElem_mem hk)
                  omega
              · have := mq y (List.mem_of_mem_drop hy)
                omega
          · rintro σ H9 ⟨o6, o9, o10, x, r, rfl, C9, hx, lr, br⟩
            refine ⟨M, ?_, ?_⟩
            · have m0 : M [some (.ref b), some (.int (1 + many)), some (.int size), some (.int wide), some (.int low), some (.ref p), o6, some (.int way), some x, o9, o10, none] H9 := ⟨_, _, _, x, r, rfl, C9, hx, lr, br⟩
              refine ⟨_, rfl, _, .inl ⟨_, SqL.of C9.lst, rfl⟩, ?_⟩
              refine ite2 (fun e => ?_) (fun _ => m0)
              refine ⟨_, rfl, _, _, rfl, rfl, _, rfl, ?_⟩
              refine ite2 (fun e2 => ?_) (fun _ => m0)
              refine ⟨_, rfl, rfl, _, rfl, ?_⟩
              refine ite2 (fun _ => ?_) (fun _ => m0)
              have ne0 : 0 < xs.length := by
                cases xs with
                | nil => cases e
                | cons _ _ => exact Nat.succ_pos _
              have sz1 : 1 < size := of_decide_eq_true e2
              refine ⟨_, rfl, _, rfl, b, c, p, xs, rfl, C9.box, npb, npc, C9.lst, ne0, by omega, fun H10 v hB10 f10 hv => ?_⟩
              obtain ⟨q, q1, q2, q3, q4⟩ := pickRow C9 hB10 f10 hv
              have C10 := C9.turn npb npc hB10 f10
              refine ⟨_, rfl, _, rfl, ?_⟩
              dsimp only [tNoPart]
              refine sl_row (lo := some 1) (hi := none) q2 (fun v1 H11 s11 h11 => ?_)
              refine ⟨_, rfl, _, rfl, sl_row (q2.mono s11) fun v2 H12 s12 h12 => ?_⟩
              rw [show (1 : Int) = ((1 : Nat) : Int) from rfl, cutI_from q 1 (by omega)] at h11
              rw [show (1 : Int) = ((1 : Nat) : Int) from rfl, cutI_to q 1 (by omega)] at h12
              refine cat_row (h11.mono s12) h12 (by rw [List.length_take, List.length_drop]; omega) fun v3 H13 s13 h13 => ?_
              refine ⟨_, _, _, v3, _, rfl, ((C10.same s11).same s12).same s13, h13, ?_, fun y hy => ?_⟩
              · rw [List.length_append, List.length_take, List.length_drop]
                omega
              · rcases List.mem_append.mp hy with hy | hy
                · exact (q4.mono (Nat.le_succ i)) y (List.mem_of_mem_drop hy)
                · exact (q4.mono (Nat.le_succ i)) y (List.mem_of_mem_take hy)
            · rintro σ H10 ⟨o6, o9, o10, x, r, rfl, C10, hx, lr, br⟩
              refine ⟨_, rfl, .inl ⟨rfl, _, SqL.of C10.lst⟩, _, rfl, p, xs, x, rfl, rfl, C10.lst, small1000 (by omega), ?_⟩
              refine ⟨_, _, _, _, _, xs ++ [x], rs ++ [r], rfl, ⟨?_, fun a o h1 h2 h3 => ?_, upd_same, (rows_updL C10.lst C10.rows).snoc ?_⟩, ?_, ?_, ?_⟩
              · obtain ⟨ii, pp, cs, g1, g2, g3⟩ := C10.box
                exact ⟨ii, pp, cs, by rw [upd_ne npb.symm]; exact g1, by rw [upd_ne npc.symm]; exact g2, g3⟩
              · rw [upd_ne (ne_of_none h3 hpH)]
                exact C10.fr a o h1 h2 h3
              · have := rows_updL (zs := xs ++ [x]) C10.lst (Paired.cons hx .nil : Rows K H10 [x] [r])
                cases this with
                | cons z _ => exact z
              · intro q hq
                rcases List.mem_append.mp hq with hq | hq
                · exact hd q hq
                · rw [List.mem_singleton.mp hq]
                  exact lr
              · rw [List.length_append, List.length_singleton, hl]
              · intro q hq
                rcases List.mem_append.mp hq with hq | hq
                · exact (hb q hq).mono (Nat.le_succ i)
                · rw [List.mem_singleton.mp hq]
                  exact br
    · rintro σ H5 ⟨o6, o7, o8, o9, o10, xs, rs, rfl, C5, hd, hl, hb⟩
      exact ⟨_, rfl, k H5 p xs rs size.toNat C5 hpH hd (by omega) (by omega) (by omega) fun r hr' => (hb r hr').mono (by omega)⟩
end
end K65

set_option Elab.async false
set_option linter.all false
set_option maxRecDepth 100000
set_option maxHeartbeats 4000000
namespace K65
open PySem L2 OW
/-! ### the plain law: both are THE strictly ascending list of the rows that no row covers -/
abbrev Row := List Int
/-- place by place -/
def pw : Row → Row → Prop
  | [], [] => True
  | x :: r, y :: q => x ≤ y ∧ pw r q
  | _, _ => False
theorem pw_iff : ∀ {r q : Row}, r.length = q.length → (pw r q ↔ ∀ i, i < r.length → r.getD i 0 ≤ q.getD i 0)
  | [], [], _ => ⟨fun _ i h => absurd h (Nat.not_lt_zero _), fun _ => trivial⟩
  | x :: r, y :: q, h => by
    have ih := pw_iff (r := r) (q := q) (by simpa using h)
    constructor
    · rintro ⟨h1, h2⟩ i hi
      cases i with
      | zero => exact h1
      | succ i => exact ih.mp h2 i (by simpa using hi)
    · intro h1
      exact ⟨h1 0 (Nat.succ_pos _), ih.mpr fun i hi => h1 (i + 1) (by simpa using hi)⟩
  | [], _ :: _, h => by cases h
  | _ :: _, [], h => by cases h
theorem pw_lt : ∀ {r q : Row}, pw r q → r ≠ q → r < q
  | [], [], _, h => absurd rfl h
  | x :: r, y :: q, ⟨h1, h2⟩, hn => by
    rw [List.cons_lt_cons_iff]
    by_cases e : x = y
    · subst e
      exact .inr ⟨rfl, pw_lt h2 fun z => hn (by rw [z])⟩
    · exact .inl (by omega)
  | [], _ :: _, h, _ => h.elim
  | _ :: _, [], h, _ => h.elim
theorem pw_strict : ∀ {r q : Row}, pw r q → (r ≠ q ↔ ∃ i, i < r.length ∧ r.getD i 0 < q.getD i 0)
  | [], [], _ => ⟨fun h => absurd rfl h, fun ⟨_, h, _⟩ => absurd h (Nat.not_lt_zero _)⟩
  | x :: r, y :: q, ⟨h1, h2⟩ => by
    have ih := pw_strict h2
    constructor
    · intro hn
      by_cases e : x = y
      · obtain ⟨i, a, b⟩ := ih.mp fun z => hn (by rw [e, z])
        exact ⟨i + 1, Nat.succ_lt_succ a, b⟩
      · exact ⟨0, Nat.succ_pos _, by show x < y; omega⟩
    · rintro ⟨i, a, b⟩ e
      injection e with e1 e2
      subst e1 e2
      exact absurd b (by omega)
  | [], _ :: _, h => h.elim
  | _ :: _, [], h => h.elim
def Below (r q : Row) : Prop := pw r q ∧ r ≠ q
theorem Below.lt {r q : Row} (h : Below r q) : r < q := pw_lt h.1 h.2
theorem below_iff {r q : Row} (hl : r.length = q.length) : belowB r q = true ↔ Below r q := by
  unfold belowB Below
  rw [pw_iff hl]
  by_cases e : r = q
  · simp [e]
  · rw [if_neg e, ← hl, Nat.min_self, List.all_eq_true]
    constructor
    · intro h
      exact ⟨fun i hi => of_decide_eq_true (h i (List.mem_range.mpr hi)), e⟩
    · rintro ⟨h, _⟩ i hi
      exact decide_eq_true (h i (List.mem_range.mp hi))
theorem cov1_iff {r q : Row} (hl : r.length = q.length) : cov1 r q = true ↔ Below r q := by
  unfold cov1
  rw [Bool.and_eq_true, List.all_eq_true, List.any_eq_true, ← hl, Nat.min_self]
  constructor
  · rintro ⟨h1, i, h2, h3⟩
    have p : pw r q := (pw_iff hl).mpr fun i hi => of_decide_eq_true (h1 i (List.mem_range.mpr hi))
    exact ⟨p, (pw_strict p).mpr ⟨i, List.mem_range.mp h2, of_decide_eq_true h3⟩⟩
  · rintro ⟨p, h⟩
    obtain ⟨i, a, b⟩ := (pw_strict p).mp h
    exact ⟨fun i hi => decide_eq_true ((pw_iff hl).mp p i (List.mem_range.mp hi)), i, List.mem_range.mpr a, decide_eq_true b⟩
theorem covered_iff {r : Row} {rs : List Row} (hl : ∀ q ∈ rs, r.length = q.length) : covered r rs = true ↔ ∃ q, q ∈ rs ∧ Below r q := by
  unfold covered
  rw [List.any_eq_true]
  exact ⟨fun ⟨q, h1, h2⟩ => ⟨q, h1, (cov1_iff (hl q h1)).mp h2⟩, fun ⟨q, h1, h2⟩ => ⟨q, h1, (cov1_iff (hl q h1)).mpr h2⟩⟩
/-- strictly ascending lists of the same rows are one -/
theorem uniq : ∀ {l m : List Row}, l.Pairwise (· < ·) → m.Pairwise (· < ·) → (∀ r, r ∈ l ↔ r ∈ m) → l = m
  | [], [], _, _, _ => rfl
  | [], b :: m, _, _, h => absurd ((h b).mpr List.mem_cons_self) (by simp)
  | a :: l, [], _, _, h => absurd ((h a).mp List.mem_cons_self) (by simp)
  | a :: l, b :: m, hl, hm, h => by
    obtain ⟨l1, l2⟩ := List.pairwise_cons.mp hl
    obtain ⟨m1, m2⟩ := List.pairwise_cons.mp hm
    have e : a = b := by
      rcases List.mem_cons.mp ((h a).mp List.mem_cons_self) with e | ha
      · exact e
      · rcases List.mem_cons.mp ((h b).mpr List.mem_cons_self) with e | hb
        · exact e.symm
        · exact absurd (m1 a ha) (List.lt_asymm (l1 b hb))
    subst e
    have t : l = m := uniq l2 m2 fun r => by
      have hr := h r
      constructor
      · intro q
        rcases List.mem_cons.mp (hr.mp (List.mem_cons_of_mem _ q)) with e | q'
        · subst e
          exact absurd (l1 r q) (List.lt_irrefl r)
        · exact q'
      · intro q
        rcases List.mem_cons.mp (hr.mpr (List.mem_cons_of_mem _ q)) with e | q'
        · subst e
          exact absurd (m1 r q) (List.lt_irrefl r)
        · exact q'
    rw [t]
theorem tot (a b : Row) : (decide (a ≤ b) || decide (b ≤ a)) = true := by
  rw [Bool.or_eq_true, decide_eq_true_iff, decide_eq_true_iff]
  exact List.le_total a b
theorem sort_up (l : List Row) : (l.mergeSort fun p q => decide (p ≤ q)).Pairwise (· ≤ ·) := by
  have h := List.pairwise_mergeSort (le := fun p q : Row => decide (p ≤ q)) (fun a b c h1 h2 => decide_eq_true (List.le_trans (of_decide_eq_true h1) (of_decide_eq_true h2))) tot l
  exact h.imp fun h => of_decide_eq_true h
theorem sort_down (l : List Row) : (l.mergeSort fun p q => decide (q ≤ p)).Pairwise (fun p q => q ≤ p) := by
  have h := List.pairwise_mergeSort (le := fun p q : Row => decide (q ≤ p)) (fun a b c h1 h2 => decide_eq_true (List.le_trans (of_decide_eq_true h2) (of_decide_eq_true h1))) (fun a b => tot b a) l
  exact h.imp fun h => of_decide_eq_true h
theorem strict_of {l : List Row} (h : l.Pairwise (· ≤ ·)) (n : l.Nodup) : l.Pairwise (· < ·) := by
  have h2 : l.Pairwise (fun a b => a ≤ b ∧ a ≠ b) := h.and n
  refine h2.imp fun {a b} ⟨h3, h4⟩ => ?_
  rcases List.le_iff_lt_or_eq.mp h3 with q | q
  · exact q
  · exact absurd q h4
/-! the greatest rows, from above -/
structure Gr (l g : List Row) : Prop where
  sub : g.Sublist l
  top : ∀ r ∈ g, ∀ o ∈ l, ¬ Below r o
  all : ∀ o ∈ l, ∃ m, m ∈ g ∧ (o = m ∨ Below o m)
theorem gr_of {d : Nat} : ∀ (l : List Row), (∀ r ∈ l, r.length = d) → l.reverse.Pairwise (· ≤ ·) → Gr l.reverse.reverse (gOf l.reverse.reverse) := by
  intro l
  rw [List.reverse_reverse]
  intro hd hp
  have go : ∀ (n : Nat), n ≤ l.length → Gr (l.take n) (gOf (l.take n)) := by
    intro n
    induction n with
    | zero =>
      intro _
      refine ⟨List.Sublist.refl _, ?_, ?_⟩
      · intro r h
        cases h
      · intro r h
        cases h
    | succ n ih =>
      intro hn
      have hr : l[n]? = some l[n] := List.getElem?_eq_getElem (by omega)
      obtain ⟨a1, a2, a3⟩ := ih (by omega)
      generalize l[n] = r at hr
      have rl : r.length = d := hd r (List.mem_of_getElem? hr)
      -- nothing before it lies below it
      have hb : ∀ o ∈ l.take n, ¬ Below o r := fun o ho q => by
        have e := List.pairwise_reverse.mp hp
        have e2 : (l.take n ++ [r]).Pairwise (fun a b => b ≤ a) := by
          rw [← take_snoc hr]
          exact e.sublist (List.take_sublist _ _)
        have e3 := (List.pairwise_append.mp e2).2.2 o ho r (List.mem_singleton.mpr rfl)
        exact absurd q.lt (List.not_lt.mpr e3)
      have len : ∀ o ∈ l.take n, r.length = o.length := fun o ho => by rw [rl, hd o (List.mem_of_mem_take ho)]
      have hself : ¬ Below r r := fun q => q.2 rfl
      rw [take_snoc hr, gOf_snoc]
      unfold gStep
      by_cases h : ((gOf (l.take n)).any fun o => belowB r o) = true
      · rw [if_pos h]
        obtain ⟨m, hm, hrm⟩ := List.any_eq_true.mp h
        have hrm' := (below_iff (len m (a1.subset hm))).mp hrm
        refine ⟨a1.trans (List.sublist_append_left _ _), fun q hq o ho => ?_, fun o ho => ?_⟩
        · rcases List.mem_append.mp ho with ho | ho
          · exact a2 q hq o ho
          · rw [List.mem_singleton.mp ho]
            exact hb q (a1.subset hq)
        · rcases List.mem_append.mp ho with ho | ho
          · exact a3 o ho
          · rw [List.mem_singleton.mp ho]
            exact ⟨m, hm, .inr hrm'⟩
      · rw [if_neg h]
        have no : ∀ m ∈ gOf (l.take n), ¬ Below r m := fun m hm q => h (List.any_eq_true.mpr ⟨m, hm, (below_iff (len m (a1.subset hm))).mpr q⟩)
        refine ⟨List.Sublist.append a1 (List.Sublist.refl _), fun q hq o ho => ?_, fun o ho => ?_⟩
        · rcases List.mem_append.mp hq with hq | hq
          · rcases List.mem_append.mp ho with ho | ho
            · exact a2 q hq o ho
            · rw [List.mem_singleton.mp ho]
              exact hb q (a1.subset hq)
          · rw [List.mem_singleton.mp hq]
            rcases List.mem_append.mp ho with ho | ho
            · intro z
              obtain ⟨m, hm, e⟩ := a3 o ho
              rcases e with e | e
              · rw [e] at z
                exact no m hm z
              · have lo := len o ho
                have lm := len m (a1.subset hm)
                have p1 := (pw_iff lo).mp z.1
                have p2 := (pw_iff (by rw [← lo, ← lm] : o.length = m.length)).mp e.1
                have p3 : pw r m := (pw_iff lm).mpr fun i hi => Int.le_trans (p1 i hi) (p2 i (by omega))
                refine no m hm ⟨p3, fun q => ?_⟩
                have s1 := z.lt
                have s2 := e.lt
                rw [← q] at s2
                exact List.lt_asymm s1 s2
            · rw [List.mem_singleton.mp ho]
              exact hself
        · rcases List.mem_append.mp ho with ho | ho
          · obtain ⟨m, hm, e⟩ := a3 o ho
            exact ⟨m, List.mem_append.mpr (.inl hm), e⟩
          · rw [List.mem_singleton.mp ho]
            exact ⟨r, List.mem_append.mpr (.inr (List.mem_singleton.mpr rfl)), .inl rfl⟩
  have := go l.length (Nat.le_refl _)
  rw [List.take_length] at this
  exact this
theorem firsts_nodup (l : List Row) : (firsts l).Nodup := by
  have go : ∀ (l acc : List Row), acc.Nodup → (l.foldl (fun acc r => if r ∈ acc then acc else acc ++ [r]) acc).Nodup := by
    intro l
    induction l with
    | nil =>
      intro acc h
      exact h
    | cons x l ih =>
      intro acc h
      rw [List.foldl_cons]
      refine ih _ ?_
      split
      · exact h
      · rename_i hx
        rw [List.nodup_append]
        exact ⟨h, by simp, fun a ha b hb e => hx (by rw [← List.mem_singleton.mp hb, ← e]; exact ha)⟩
  exact go l [] List.nodup_nil
/-- what greatest gives -/
structure Max (ss g : List Row) : Prop where
  up : g.Pairwise (· < ·)
  mem : ∀ r, r ∈ g ↔ r ∈ ss ∧ ∀ o ∈ ss, ¬ Below r o
  all : ∀ o ∈ ss, ∃ m, m ∈ g ∧ (o = m ∨ Below o m)
theorem greatest_max {d : Nat} {ss : List Row} (hd : ∀ r ∈ ss, r.length = d) : Max ss (greatest ss) := by
  let srt := (firsts ss).mergeSort fun p q => decide (q ≤ p)
  have ms : ∀ r, r ∈ srt ↔ r ∈ ss := fun r => List.mem_mergeSort.trans (firsts_mem ss)
  have G : Gr srt (gOf srt) := by
    have := gr_of (d := d) srt (fun r hr => hd r ((ms r).mp hr)) (List.pairwise_reverse.mpr (sort_down (firsts ss)))
    rwa [List.reverse_reverse] at this
  have mg : ∀ r, r ∈ greatest ss ↔ r ∈ gOf srt := fun r => List.mem_mergeSort
  have nd : srt.Nodup := (List.mergeSort_perm _ _).nodup_iff.mpr (firsts_nodup ss)
  have nd2 : (greatest ss).Nodup := (List.mergeSort_perm _ _).nodup_iff.mpr (nd.sublist G.sub)
  refine ⟨strict_of (sort_up _) nd2, fun r => ?_, fun o ho => ?_⟩
  · rw [mg]
    constructor
    · intro h
      exact ⟨(ms r).mp (G.sub.subset h), fun o ho => G.top r h o ((ms o).mpr ho)⟩
    · rintro ⟨h1, h2⟩
      obtain ⟨m, hm, e⟩ := G.all r ((ms r).mpr h1)
      rcases e with rfl | e
      · exact hm
      · exact absurd e (h2 m ((ms m).mp (G.sub.subset hm)))
  · obtain ⟨m, hm, e⟩ := G.all o ((ms o).mpr ho)
    exact ⟨m, (mg m).mpr hm, e⟩
theorem dStep_yes {rs told : List Row} {r : Row} (h : (!decide (r ∈ told)) = true ∧ (!covered r rs) = true) : dStep rs told r = told ++ [r] := if_pos h
theorem dStep_no {rs told : List Row} {r : Row} (h : ¬ ((!decide (r ∈ told)) = true ∧ (!covered r rs) = true)) : dStep rs told r = told := if_neg h
theorem due_max {d : Nat} {rs : List Row} (hd : ∀ r ∈ rs, r.length = d) : (due rs).Pairwise (· < ·) ∧ ∀ r, r ∈ due rs ↔ r ∈ rs ∧ ∀ o ∈ rs, ¬ Below r o := by
  let srt := rs.mergeSort fun p q => decide (p ≤ q)
  have ms : ∀ r, r ∈ srt ↔ r ∈ rs := fun r => List.mem_mergeSort
  have hs : srt.Pairwise (· ≤ ·) := sort_up rs
  have go : ∀ (n : Nat), n ≤ srt.length → ((srt.take n).foldl (dStep rs) []).Pairwise (· < ·) ∧ ∀ r, r ∈ (srt.take n).foldl (dStep rs) [] ↔ r ∈ srt.take n ∧ ¬ covered r rs = true := by
    intro n
    induction n with
    | zero =>
      intro _
      exact ⟨List.Pairwise.nil, fun r => by simp⟩
    | succ n ih =>
      intro hn
      have hr : srt[n]? = some srt[n] := List.getElem?_eq_getElem (by omega)
      obtain ⟨a1, a2⟩ := ih (by omega)
      generalize srt[n] = r at hr
      rw [take_snoc hr, List.foldl_append]
      show (dStep rs ((srt.take n).foldl (dStep rs) []) r).Pairwise (· < ·) ∧ ∀ q, q ∈ dStep rs ((srt.take n).foldl (dStep rs) []) r ↔ _
      by_cases h : (!decide (r ∈ (srt.take n).foldl (dStep rs) [])) = true ∧ (!covered r rs) = true
      · rw [dStep_yes h]
        obtain ⟨h1, h2⟩ := h
        have h1' : ¬ r ∈ (srt.take n).foldl (dStep rs) [] := by simpa using h1
        have h2' : ¬ covered r rs = true := by simpa using h2
        constructor
        · rw [List.pairwise_append]
          refine ⟨a1, List.pairwise_singleton _ _, fun t ht q hq => ?_⟩
          rw [List.mem_singleton.mp hq]
          have e2 : (srt.take n ++ [r]).Pairwise (· ≤ ·) := by
            rw [← take_snoc hr]
            exact hs.sublist (List.take_sublist _ _)
          have e3 := (List.pairwise_append.mp e2).2.2 t ((a2 t).mp ht).1 r (List.mem_singleton.mpr rfl)
          rcases List.le_iff_lt_or_eq.mp e3 with e | e
          · exact e
          · rw [e] at ht
            exact absurd ht h1'
        · intro q
          rw [List.mem_append, List.mem_append, a2, List.mem_singleton]
          constructor
          · rintro (⟨x, y⟩ | rfl)
            · exact ⟨.inl x, y⟩
            · exact ⟨.inr rfl, h2'⟩
          · rintro ⟨x | rfl, y⟩
            · exact .inl ⟨x, y⟩
            · exact .inr rfl
      · rw [dStep_no h]
        refine ⟨a1, fun q => ?_⟩
        rw [a2, List.mem_append, List.mem_singleton]
        constructor
        · rintro ⟨x, y⟩
          exact ⟨.inl x, y⟩
        · rintro ⟨x | rfl, y⟩
          · exact ⟨x, y⟩
          · refine ⟨?_, y⟩
            by_cases z : q ∈ (srt.take n).foldl (dStep rs) []
            · exact ((a2 q).mp z).1
            · exact absurd ⟨by simpa using z, by simpa using y⟩ h
  have := go srt.length (Nat.le_refl _)
  rw [List.take_length] at this
  refine ⟨this.1, fun r => ?_⟩
  have e : r ∈ due rs ↔ r ∈ srt ∧ ¬ covered r rs = true := this.2 r
  rw [e, ms]
  constructor
  · rintro ⟨h1, h2⟩
    have len : ∀ q ∈ rs, r.length = q.length := fun q hq => by rw [hd r h1, hd q hq]
    exact ⟨h1, fun o ho z => h2 ((covered_iff len).mpr ⟨o, ho, z⟩)⟩
  · rintro ⟨h1, h2⟩
    have len : ∀ q ∈ rs, r.length = q.length := fun q hq => by rw [hd r h1, hd q hq]
    exact ⟨h1, fun z => by
      obtain ⟨o, ho, q⟩ := (covered_iff len).mp z
      exact h2 o ho q⟩
/-- the rows of any list with the same rows -/
theorem greatest_same {d : Nat} {rs ss : List Row} (hd : ∀ r ∈ rs, r.length = d) (h : ∀ r, r ∈ ss ↔ r ∈ rs) : greatest ss = due rs := by
  have M := greatest_max (ss := ss) fun r hr => hd r ((h r).mp hr)
  obtain ⟨u, m⟩ := due_max hd
  refine uniq M.up u fun r => ?_
  rw [M.mem, m, h]
  exact ⟨fun ⟨a, b⟩ => ⟨a, fun o ho => b o ((h o).mpr ho)⟩, fun ⟨a, b⟩ => ⟨a, fun o ho => b o ((h o).mp ho)⟩⟩
theorem greatest_due {d : Nat} {rs : List Row} (hd : ∀ r ∈ rs, r.length = d) : greatest rs = due rs := greatest_same hd fun _ => Iff.rfl
theorem due_sub {d : Nat} {rs : List Row} (hd : ∀ r ∈ rs, r.length = d) {r : Row} (h : r ∈ due rs) : r ∈ rs := (((due_max hd).2 r).mp h).1
theorem greatest_of_due {d : Nat} {rs : List Row} (hd : ∀ r ∈ rs, r.length = d) : greatest (due rs) = due rs := by
  obtain ⟨u, m⟩ := due_max hd
  have M := greatest_max (ss := due rs) fun r hr => hd r (due_sub hd hr)
  refine uniq M.up u fun r => ?_
  rw [M.mem]
  refine ⟨fun h => h.1, fun h => ⟨h, fun o ho => ((m r).mp h).2 o (due_sub hd ho)⟩⟩
theorem due_cover {d : Nat} {rs : List Row} (hd : ∀ r ∈ rs, r.length = d) {r : Row} (hr : r ∈ rs) : r ∈ due rs ∨ covered r (due rs) = true := by
  have M := greatest_max hd
  rw [greatest_due hd] at M
  obtain ⟨m, hm, e⟩ := M.all r hr
  rcases e with rfl | e
  · exact .inl hm
  · refine .inr ((covered_iff fun q hq => ?_).mpr ⟨m, hm, e⟩)
    rw [hd r hr, hd q (due_sub hd hq)]
theorem greatest_nil : greatest [] = [] := by simp [greatest, firsts]
end K65

set_option Elab.async false
set_option linter.all false
set_option maxRecDepth 100000
set_option maxHeartbeats 4000000
namespace K65
open PySem L2 OW
/-! ### repr of the rows: its length -/
theorem textFrom_most : ∀ (ts : List Str) (k : Nat) (acc : Str), (textFrom k acc ts).length ≤ acc.length + piled ts
  | [], _, acc => Nat.le_add_right _ _
  | t :: r, k, acc => by
    have ih := textFrom_most r (k + 1) (acc ++ (if k > 0 then ", " else "" : String) ++ t)
    have e : (acc ++ (if k > 0 then ", " else "" : String) ++ t).length ≤ acc.length + 2 + t.length := by
      rw [strLen_append, strLen_append]
      split
      · exact Nat.le_refl _
      · show acc.length + 0 + t.length ≤ _
        omega
    show (textFrom (k + 1) _ r).length ≤ _
    rw [piled_cons]
    omega
theorem piled_most {n : Nat} : ∀ {ts : List Str}, (∀ t ∈ ts, t.length ≤ n) → piled ts ≤ ts.length * (n + 2)
  | [], _ => Nat.zero_le _
  | t :: r, h => by
    have ih := piled_most (n := n) (ts := r) fun u hu => h u (List.mem_cons_of_mem _ hu)
    have h1 := h t List.mem_cons_self
    rw [piled_cons, List.length_cons, Nat.add_mul]
    omega
theorem listText_most (ts : List Str) : (listText ts).length ≤ 2 + piled ts := by
  have h := textFrom_most ts 0 "["
  have e1 : ("[" : Str).length = 1 := rfl
  have e2 : ("]" : Str).length = 1 := rfl
  show (textFrom 0 "[" ts ++ "]").length ≤ _
  rw [strLen_append]
  omega
theorem tupleText_most (ts : List Str) : (tupleText ts).length ≤ 3 + piled ts := by
  have e : (Str.join ", " ts).length ≤ piled ts := by
    cases ts with
    | nil => exact Nat.zero_le _
    | cons t r =>
      have := join_length_add (t :: r) (by simp)
      omega
  unfold tupleText
  rw [strLen_append, strLen_append]
  have e1 : ("(" : Str).length = 1 := rfl
  split
  · have e2 : (",)" : Str).length = 2 := rfl
    have e3 : ((",)" : String) : Str).length = 2 := rfl
    omega
  · have e3 : ((")" : String) : Str).length = 1 := rfl
    omega
theorem shown_ints : ∀ r : List Int, PyData.shownAll (r.map PyData.int) = r.map fun i => Str.ofString (toString i)
  | [] => by simp [PyData.shownAll]
  | x :: r => by
    show PyData.shownAll (.int x :: r.map PyData.int) = _
    rw [PyData.shownAll, shown_ints r]
    rfl
theorem shown_rows : ∀ rs : List (List Int), PyData.shownAll (rs.map tupD) = rs.map fun r => (tupD r).shown
  | [] => by simp [PyData.shownAll]
  | x :: r => by
    show PyData.shownAll (tupD x :: r.map tupD) = _
    rw [PyData.shownAll, shown_rows r]
    rfl
theorem row_shown {r : List Int} (hl : r.length ≤ 6) (hb : Bd 40 r) : (tupD r).shown.length ≤ 160 := by
  have e : (tupD r).shown = tupleText (r.map fun i => Str.ofString (toString i)) := by
    show (PyData.tuple (r.map .int)).shown = _
    rw [PyData.shown, shown_ints]
  rw [e]
  refine Nat.le_trans (tupleText_most _) ?_
  have h := piled_most (n := 23) (ts := r.map fun i => Str.ofString (toString i)) fun t ht => by
    obtain ⟨i, hi, rfl⟩ := List.mem_map.mp ht
    have h1 : i.natAbs < 10 ^ 22 := by
      have := hb i hi
      omega
    have h2 := int_text_length_le10 (k := 22) (by decide) h1
    rw [ofString_length]
    omega
  rw [List.length_map] at h
  have : r.length * (23 + 2) ≤ 6 * 25 := Nat.mul_le_mul_right _ hl
  omega
theorem rows_shown {rs : List (List Int)} (hn : rs.length ≤ 40) (hl : ∀ r ∈ rs, r.length ≤ 6) (hb : ∀ r ∈ rs, Bd 40 r) : (PyData.list (rs.map tupD)).shown.length ≤ sizeLine := by
  rw [PyData.shown, shown_rows]
  refine Nat.le_trans (listText_most _) ?_
  have h := piled_most (n := 160) (ts := rs.map fun r => (tupD r).shown) fun t ht => by
    obtain ⟨r, hr, rfl⟩ := List.mem_map.mp ht
    exact row_shown (hl r hr) (hb r hr)
  rw [List.length_map] at h
  have : rs.length * (160 + 2) ≤ 40 * 162 := Nat.mul_le_mul_right _ hn
  exact Nat.le_of_lt (small1000_ (by omega))
where
  small1000_ {n : Nat} (h : n ≤ 10000) : n < sizeLine := Nat.lt_of_le_of_lt h (by decide)
theorem showable_ints : ∀ {r : List Int}, Bd 40 r → PyData.showableAll (r.map PyData.int) = true
  | [], _ => by simp [PyData.showableAll]
  | x :: r, h => by
    show PyData.showableAll (.int x :: r.map PyData.int) = true
    rw [PyData.showableAll, showable_ints (r := r) fun y hy => h y (List.mem_cons_of_mem _ hy), PyData.showable, Bool.and_true]
    have h1 := h x List.mem_cons_self
    have h2 : x.natAbs < 2 ^ 80 := by omega
    by_cases h0 : x.natAbs = 0
    · rw [h0]
      decide
    · have := (Nat.log2_lt h0).mpr h2
      exact decide_eq_true (by omega)
theorem showable_rows : ∀ {rs : List (List Int)}, (∀ r ∈ rs, Bd 40 r) → PyData.showableAll (rs.map tupD) = true
  | [], _ => by simp [PyData.showableAll]
  | x :: r, h => by
    show PyData.showableAll (tupD x :: r.map tupD) = true
    rw [PyData.showableAll, showable_rows (rs := r) fun y hy => h y (List.mem_cons_of_mem _ hy), Bool.and_true]
    show (PyData.tuple (x.map .int)).showable = true
    rw [PyData.showable]
    exact showable_ints (h x List.mem_cons_self)
theorem noDict_rows (rs : List (List Int)) : (PyData.list (rs.map tupD)).hasDict = false := PyData.hasDict_of_canLay _ (by rw [PyData.canLay0]; exact canLay_rows rs)
theorem depth_list (rs : List (List Int)) : (PyData.list (rs.map tupD)).depth ≤ 60 := by
  rw [PyData.depth]
  have := depth_rows rs
  omega
theorem cutV_to (xs : List V) (k : Nat) (h : k ≤ xs.length) : cutV xs none (some (k : Int)) = xs.take k := by
  unfold cutV
  rw [HT.sIx_none, HT.sIx_nat, List.drop_zero, Nat.sub_zero, Nat.min_eq_left h]
theorem cutV_from (xs : List V) (k : Nat) (h : k ≤ xs.length) : cutV xs (some (k : Int)) none = xs.drop k := by
  unfold cutV
  rw [HT.sIx_none, HT.sIx_nat, Nat.min_eq_left h, List.take_of_length_le]
  rw [List.length_drop]
  omega
/-- the rows and what is due, as they stand -/
structure Two (K : PySem.W.Frag) (p q : Addr) (H : Hp) (xs ys : List V) (rs us : List (List Int)) : Prop where
  hp : H p = some (.lst xs)
  hq : H q = some (.lst ys)
  rx : Rows K H xs rs
  ry : Rows K H ys us
theorem Two.same {K : PySem.W.Frag} {p q : Addr} {H H' : Hp} {xs ys : List V} {rs us : List (List Int)} (h : Two K p q H xs ys rs us) (s : Same H H') : Two K p q H' xs ys rs us :=
  ⟨s _ _ h.hp, s _ _ h.hq, h.rx.mono s, h.ry.mono s⟩
theorem Two.write {K : PySem.W.Frag} {p q t : Addr} {H : Hp} {xs ys zs ws : List V} {rs us : List (List Int)} (h : Two K p q H xs ys rs us) (ht : H t = some (.lst zs)) (np : p ≠ t) (nq : q ≠ t) : Two K p q (upd H t (.lst ws)) xs ys rs us :=
  ⟨(upd_ne np).trans h.hp, (upd_ne nq).trans h.hq, rows_updL ht h.rx, rows_updL ht h.ry⟩
theorem due_len (rs : List (List Int)) : (due rs).length ≤ rs.length := by
  have go : ∀ (l acc : List (List Int)), (l.foldl (dStep rs) acc).length ≤ acc.length + l.length := by
    intro l
    induction l with
    | nil =>
      intro acc
      exact Nat.le_refl _
    | cons x l ih =>
      intro acc
      rw [List.foldl_cons]
      refine Nat.le_trans (ih _) ?_
      unfold dStep
      split
      · rw [List.length_append, List.length_singleton, List.length_cons]
        omega
      · rw [List.length_cons]
        omega
  have h := go (rs.mergeSort fun p q => decide (p ≤ q)) []
  rw [List.length_mergeSort] at h
  exact Nat.le_trans h (by simp)
def spLaw (K : PySem.W.Frag) : Sp := fun vs H Q _ => ∃ (a : Addr) (ns : List Int), vs = [.ref a] ∧ SqL K H a (ns.map V.int) ∧ ns.length ≤ 63 ∧ ∀ H', Q (.bl true) H'
section
variable {P : Program} {w : World} {K : PySem.W.Frag} {mg : Str → Option Value} {base : Heap}
theorem ok_law (T : Txt K mg) {f : Addr} {fd : FuncData} (F : Fun K "law" "law" slaw f fd) : TopOk P w K mg base 4 f fd ["script"] (spLaw K) := by
  refine topOk_of F sclaw (fun vs H Q E h => ?_) (fun cdv A outer s H vs Q E hg0 hr h => ?_)
  · obtain ⟨a, ns, rfl, _⟩ := h
    rfl
  · obtain ⟨a, ns, rfl, ha, hl, k⟩ := h
    have hg : (A.deeper (PyProof.Rows.envOfC "law" (defScope slaw) s.heap.objs.size f cdv)).guards = some [] := hg0
    refine ⟨_, (pss_cons (ps_set (i := 1) sclaw.nd rfl (by first | exact Or.inl rfl | exact Or.inr rfl) (pe_call (ok_law_box T) (hr.mono (by decide)) rfl T.g_law_box T.f_law_box.kp T.b_law_box .nil pass0 (pa_cons (pv 0) pa_nil)))
    (pss_cons (ps_set (i := 2) sclaw.nd rfl (by first | exact Or.inl rfl | exact Or.inr rfl) (pe_call (ok_law_drawn T) (hr.mono (by decide)) rfl T.g_law_drawn T.f_law_drawn.kp T.b_law_drawn .nil pass0 (pa_cons (pv 1) pa_nil)))
    (pss_cons (ps_set (i := 3) sclaw.nd rfl (by first | exact Or.inl rfl | exact Or.inr rfl) (pe_call (ok_law_due T) (hr.mono (by decide)) rfl T.g_law_due T.f_law_due.kp T.b_law_due .nil pass0 (pa_cons (pv 2) pa_nil)))
    (pss_cons (ps_set (i := 4) sclaw.nd rfl (by first | exact Or.inl rfl | exact Or.inr rfl) (pe_call (ok_law_take T) (hr.mono (by decide)) rfl T.g_law_take T.f_law_take.kp T.b_law_take .nil pass0 (pa_cons (pv 1) (pa_cons (pe_op op_add (pe_callB call_len_seq (by rfl) T.n_len (by decide +kernel) (pa_cons (pv 2) pa_nil)) pe_int) pa_nil))))
    (pss_cons (ps_set (i := 5) sclaw.nd rfl (by first | exact Or.inl rfl | exact Or.inr rfl) (pe_callTy call_list_of (by rfl) T.n_list (by decide +kernel) (pa_cons (pv 2) pa_nil)))
    (pss_cons (ps_set (i := 6) sclaw.nd rfl (by first | exact Or.inl rfl | exact Or.inr rfl) (pe_call (okgreatest_rows T) (hr.mono (by decide)) rfl T.ggreatest_rows T.fgreatest_rows.kp T.bgreatest_rows .nil pass0 (pa_cons (pv 5) pa_nil)))
    (pss_cons (ps_if (PW.pt (pw_or (pt_not (pt_val (pe_callB call_isi (by rfl) T.n_isinstance (by decide +kernel) (pa_cons (pv 6) (pa_cons (pe_bltn (v := .ty "list") (u := .type "list") (by rfl) T.n_list (by decide +kernel) rfl) pa_nil))))) (pw_or (pt_cmpR (op_neD hr.units) (pv 6) (pv 3) (nomark _)) (pw_or (pt_cmpR op_ne (pe_callB (cr_reprD hg hr.units) (by rfl) T.n_repr (by decide +kernel) (pa_cons (pv 6) pa_nil)) (pe_callB (cr_reprD hg hr.units) (by rfl) T.n_repr (by decide +kernel) (pa_cons (pv 3) pa_nil)) (nomark _)) (pw_or1 (pt_cmpR (op_neD hr.units) (pv 5) (pv 2) (nomark _)))))))
      (pss_one (ps_ret pe_bl))
      pss_nil)
    (Evl.pss_cut (ps_for PassesOwn.never rfl (pi_list (pv 2)) (pg_name (i := 7) sclaw.nd rfl (by first | exact Or.inl rfl | exact Or.inr rfl))
      (pss_one (ps_if (PW.pt (pw_and (pt_cmpR (op_notInD (hu65_of hr)) (pv 7) (pv 6) (by rfl)) (pw_and1 (pt_not (pt_val (pe_call (ok_law_covered T) (hr.mono (by decide)) rfl T.g_law_covered T.f_law_covered.kp T.b_law_covered .nil pass0 (pa_cons (pv 7) (pa_cons (pv 6) pa_nil))))))))
        (pss_one (ps_ret pe_bl))
        pss_nil)))
    (pss_cons (ps_expr (pe_bm PySem.F.plainAttrs_list PySem.F.slot_list_append PySem.F.type_list_append mt_append (pv 6) (pa_cons (pe_tup (pa_cons pe_int pa_nil)) pa_nil)))
    (pss_cons (ps_expr (pe_bm PySem.F.plainAttrs_list PySem.F.slot_list_extend PySem.F.type_list_extend mt_extend (pv 6) (pa_cons (pe_callTy call_list_of (by rfl) T.n_list (by decide +kernel) (pa_cons (pv 2) pa_nil)) pa_nil)))
    (pss_cons (ps_if (PW.pt (pw_or (pt_cmpR (op_neD hr.units) (pe_call (okgreatest_rows T) (hr.mono (by decide)) rfl T.ggreatest_rows T.fgreatest_rows.kp T.bgreatest_rows .nil pass0 (pa_cons (pe_callTy call_tuple_of (by rfl) T.n_tuple (by decide +kernel) (pa_cons (pv 2) pa_nil)) pa_nil)) (pv 3) (nomark _)) (pw_or1 (pt_cmpR (op_neD hr.units) (pe_call (okgreatest_rows T) (hr.mono (by decide)) rfl T.ggreatest_rows T.fgreatest_rows.kp T.bgreatest_rows .nil pass0 (pa_cons (pe_op op_cat (pe_slice sl_list (pv 2) (po_some (pv 4)) po_none) (pe_slice sl_list (pv 2) po_none (po_some (pv 4)))) pa_nil)) (pv 3) (nomark _)))))
      (pss_one (ps_ret pe_bl))
      pss_nil)
    (pss_one (ps_ret (pe_and (pe_cmpR (op_eqD hr.units) (pe_call (okgreatest_rows T) (hr.mono (by decide)) rfl T.ggreatest_rows T.fgreatest_rows.kp T.bgreatest_rows .nil pass0 (pa_cons (pe_callTy call_list_of (by rfl) T.n_list (by decide +kernel) (pa_cons (pv 3) pa_nil)) pa_nil)) (pv 3) (nomark _)) (pe_and (pe_cmpR (op_eqD hr.units) (pe_call (okgreatest_rows T) (hr.mono (by decide)) rfl T.ggreatest_rows T.fgreatest_rows.kp T.bgreatest_rows .nil pass0 (pa_cons (pe_op op_cat (pe_revL (pv 2)) (pv 3)) pa_nil)) (pv 3) (nomark _)) (pe_one (pe_cmpR (op_eqD hr.units) (pe_call (okgreatest_rows T) (hr.mono (by decide)) rfl T.ggreatest_rows T.fgreatest_rows.kp T.bgreatest_rows .nil pass0 (pa_cons (pe_lst pa_nil) pa_nil)) (pe_lst pa_nil) (nomark _)))))))))))))))))), ?_⟩
    -- the box, the rows
    refine ⟨_, rfl, a, ns, rfl, ha, hl, fun H1 b c s1 nb nc hB1 => ?_⟩
    refine ⟨_, rfl, b, c, rfl, hB1, fun H2 p xs rs d C2 np hd d6 l0 l40 bd => ?_⟩
    obtain ⟨i1, p1, cs1, g1, g2, _⟩ := id hB1
    have npb : p ≠ b := (ne_of_none g1 np).symm
    have npc : p ≠ c := (ne_of_none g2 np).symm
    have lxs : xs.length = rs.length := Paired.len C2.rows
    have l1000 : rs.length ≤ 1000 := by omega
    have d1000 : d ≤ 1000 := by omega
    -- what is due
    refine ⟨_, rfl, p, xs, rs, d, rfl, C2.lst, C2.rows, hd, d1000, l1000, fun H3 q ys s3 nq hq Rq => ?_⟩
    obtain ⟨i2, p2, cs2, e1, e2, _⟩ := id C2.box
    have nqb : q ≠ b := (ne_of_none e1 nq).symm
    have nqc : q ≠ c := (ne_of_none e2 nq).symm
    have C3 := C2.same s3
    -- start
    refine ⟨_, rfl, _, rfl, p, _, rfl, .inl (SqL.of C3.lst), _, _, rfl, rfl, b, c, _, rfl, C3.box, by omega, by omega, fun H4 st hB4 f4 t0 t1 => ?_⟩
    have C4 := C3.turn npb npc hB4 f4
    have W4 : Two K p q H4 xs ys rs (due rs) := ⟨C4.lst, f4 _ _ nqb nqc hq, C4.rows, Rows.fr2 C3.box f4 Rq⟩
    -- handed, told
    refine ⟨_, rfl, p, _, rfl, .inl (SqL.of W4.hp), fun h hh => ?_⟩
    have W5 := W4.same (OW.Same.upd_new (o := .lst xs) (Same.refl H4) hh)
    refine ⟨_, rfl, h, xs, rs, d, rfl, .inl upd_same, W5.rx, hd, d1000, l1000, fun H6 t zs s6 nt ht Rt => ?_⟩
    have W6 := W5.same s6
    have hh6 := s6 _ _ (upd_same (H := H4) (a := h) (o := .lst xs))
    have npt : p ≠ t := ne_of_none W5.hp nt
    have nqt : q ≠ t := ne_of_none W5.hq nt
    rw [greatest_due hd] at Rt
    have dd : ∀ r ∈ due rs, r.length = d := fun r hr' => hd r (due_sub hd hr')
    have bdd : ∀ r ∈ due rs, Bd 40 r := fun r hr' => bd r (due_sub hd hr')
    have eq1 : (!PyData.eqv (.list ((due rs).map tupD)) (.list ((due rs).map tupD))) = false := by
      rw [eqv_rows, decide_eq_true rfl]
      rfl
    have eq2 : PyData.eqv (.list ((due rs).map tupD)) (.list ((due rs).map tupD)) = true := by
      rw [eqv_rows, decide_eq_true rfl]
    have eq3 : (!PyData.eqv (.list (rs.map tupD)) (.list (rs.map tupD))) = false := by
      rw [eqv_rows, decide_eq_true rfl]
      rfl
    have ldue : (due rs).length ≤ 40 := by
      have := due_len rs
      omega
    have dp6 : ∀ {H' : Hp}, Two K p q H' xs ys rs (due rs) → Dp K H' (.ref q) (.list ((due rs).map tupD)) := fun W => .lst (SqL.of W.hq) W.ry.dp
    have dpx : ∀ {H' : Hp}, Two K p q H' xs ys rs (due rs) → Dp K H' (.ref p) (.list (rs.map tupD)) := fun W => .lst (SqL.of W.hp) W.rx.dp
    have dpt : Dp K H6 (.ref t) (.list ((due rs).map tupD)) := .lst (SqL.of ht) Rt.dp
    have dph : Dp K H6 (.ref h) (.list (rs.map tupD)) := .lst (SqL.of hh6) W6.rx.dp
    have shb : (PyData.list ((due rs).map tupD)).showable = true := by
      rw [PyData.showable]
      exact showable_rows bdd
    have shl := rows_shown ldue (fun r hr' => by rw [dd r hr']; exact d6) bdd
    -- not isinstance(told, list) or told != due or repr(told) != repr(due) or handed != rows
    refine ⟨_, rfl, .ref t, .ty "list", .type "list", .type "list", true, rfl, .ty _, .base (.lst ht), rfl, _, rfl, ?_⟩
    refine ⟨_, rfl, _, rfl, _, _, dpt, dp6 W6, shaped_rows _, shaped_rows _, _, rfl, ?_⟩
    rw [eq1]
    refine ⟨_, rfl, t, _, rfl, dpt, shb, noDict_rows _, depth_list _, shl, _, rfl, q, _, rfl, dp6 W6, shb, noDict_rows _, depth_list _, shl, rfl, _, rfl, ?_⟩
    rw [decide_eq_true rfl]
    refine ⟨_, rfl, _, rfl, _, _, dph, dpx W6, shaped_rows _, shaped_rows _, _, rfl, ?_⟩
    rw [eq3]
    -- each row is told or covered
    have sig : ∀ v : Option V, [some (V.ref a), some (.ref b), some (.ref p), some (.ref q), some (.int st), some (.ref h), some (.ref t), v] = [some (V.ref a), some (.ref b), some (.ref p), some (.ref q), some (.int st), some (.ref h), some (.ref t), v] := fun _ => rfl
    let PO : Nat → L2.St → Hp → Prop := fun i σ H' => ∃ v : Option V, σ = [some (.ref a), some (.ref b), some (.ref p), some (.ref q), some (.int st), some (.ref h), some (.ref t), v] ∧ Same H6 H'
    refine ⟨PO xs.length, ?_, ?_⟩
    · refine ⟨_, rfl, p, rfl, ⟨_, SqL.of W6.hp⟩, for_list (K := K) (a := p) (xs := xs) PO ⟨none, rfl, Same.refl _⟩ (fun i σ H' _ h => ?_) ?_ (fun σ H' h => h)⟩
      · obtain ⟨_, _, s7⟩ := h
        exact SqL.of (s7 _ _ W6.hp)
      · rintro i x σ H7 hx ⟨v, rfl, s7⟩
        obtain ⟨r, hr', hxr⟩ := (W6.rx.mono s7).get hx
        have rmem := List.mem_of_getElem? hr'
        refine ⟨_, rfl, _, rfl, tupD r, _, hxr.dp, .lst (SqL.of (s7 _ _ ht)) (Rt.mono s7).dp, shaped_tup r, shaped_rows _, _, rfl, ?_⟩
        rw [any_tup]
        refine ite2 (fun e => ?_) (fun _ => ⟨_, rfl, s7⟩)
        have hc : covered r (due rs) = true := (due_cover hd rmem).resolve_left fun z => by
          rw [decide_eq_true z] at e
          cases e
        refine ⟨_, rfl, _, rfl, x, t, zs, r, due rs, rfl, hxr, s7 _ _ ht, Rt.mono s7, by rw [hd r rmem]; omega, fun H8 s8 => ⟨_, rfl, ?_⟩⟩
        rw [hc]
        exact ⟨_, rfl, s7.trans s8⟩
    · rintro σ H7 ⟨v, rfl, s7⟩
      have W7 := W6.same s7
      -- told.append((7,)); told.extend(list(rows))
      refine ⟨_, rfl, .inl ⟨rfl, _, SqL.of (s7 _ _ ht)⟩, (by show 1 ≤ sizeLine; decide), fun u hu => ?_⟩
      have lzs : zs.length = (due rs).length := Paired.len Rt
      have s8 : Same H7 (upd H7 u (.tup [.int 7])) := OW.Same.upd_new (Same.refl _) hu
      have ht8 := s8 _ _ (s7 _ _ ht)
      refine ⟨t, zs, .ref u, rfl, rfl, ht8, small1000 (by omega), ?_⟩
      have W8 := (W7.same s8).write (ws := zs ++ [.ref u]) ht8 npt nqt
      refine ⟨_, rfl, .inl ⟨rfl, _, SqL.of upd_same⟩, _, rfl, p, _, rfl, .inl (SqL.of W8.hp), fun e he => ?_⟩
      have s9 : Same (upd (upd H7 u (.tup [.int 7])) t (.lst (zs ++ [.ref u]))) _ := OW.Same.upd_new (o := .lst xs) (Same.refl _) he
      have ht9 := s9 _ _ (upd_same (H := upd H7 u (.tup [.int 7])) (a := t) (o := .lst (zs ++ [.ref u])))
      refine ⟨t, e, _, _, rfl, rfl, ht9, upd_same, Nat.le_of_lt (small1000 (by rw [List.length_append, List.length_singleton]; omega)), ?_⟩
      have W9 := (W8.same s9).write (ws := zs ++ [.ref u] ++ xs) ht9 npt nqt
      -- greatest_rows(tuple(rows)) != due
      refine ⟨_, rfl, p, _, rfl, .inl ⟨SqL.of W9.hp, fun u2 hu2 => ?_⟩⟩
      have W10 := W9.same (OW.Same.upd_new (o := .tup xs) (Same.refl _) hu2)
      refine ⟨u2, xs, rs, d, rfl, .inr upd_same, W10.rx, hd, d1000, l1000, fun H11 g1 gs1 s11 ng1 hg1 Rg1 => ?_⟩
      have W11 := W10.same s11
      rw [greatest_due hd] at Rg1
      refine ⟨_, rfl, _, _, .lst (SqL.of hg1) Rg1.dp, dp6 W11, shaped_rows _, shaped_rows _, _, rfl, ?_⟩
      rw [eq1]
      -- greatest_rows(rows[start:] + rows[:start]) != due
      obtain ⟨n, rfl⟩ : ∃ n : Nat, st = (n : Int) := ⟨st.toNat, by omega⟩
      have hn : n ≤ xs.length := by omega
      refine ⟨_, rfl, _, rfl, (n : Int), rfl, ?_⟩
      dsimp only [tNoPart]
      refine ⟨p, xs, rfl, SqL.of W11.hp, fun v1 hv1 => ?_⟩
      rw [cutV_from xs n hn]
      have W12 := W11.same (OW.Same.upd_new (o := .lst (xs.drop n)) (Same.refl _) hv1)
      refine ⟨_, rfl, _, rfl, (n : Int), rfl, p, xs, rfl, SqL.of W12.hp, fun v2 hv2 => ?_⟩
      rw [cutV_to xs n hn]
      have W13 := W12.same (OW.Same.upd_new (o := .lst (xs.take n)) (Same.refl _) hv2)
      have nv12 : v1 ≠ v2 := ne_of_none (upd_same (H := H11) (a := v1) (o := .lst (xs.drop n))) hv2
      refine ⟨v1, v2, _, _, rfl, rfl, (upd_ne nv12).trans upd_same, upd_same, Nat.le_of_lt (small1000 (by rw [List.length_drop, List.length_take]; omega)), fun v3 hv3 => ?_⟩
      have W14 := W13.same (OW.Same.upd_new (o := .lst (xs.drop n ++ xs.take n)) (Same.refl _) hv3)
      have mem4 : ∀ r, r ∈ rs.drop n ++ rs.take n ↔ r ∈ rs := fun r => by
        have e : r ∈ rs ↔ r ∈ rs.take n ++ rs.drop n := by rw [List.take_append_drop]
        rw [e, List.mem_append, List.mem_append]
        exact Or.comm
      refine ⟨v3, _, rs.drop n ++ rs.take n, d, rfl, .inl upd_same, Rows.append (Rows.drop n W14.rx) (Rows.take n W14.rx), fun r hr' => hd r ((mem4 r).mp hr'), d1000, by rw [List.length_append, List.length_drop, List.length_take]; omega, fun H15 g2 gs2 s15 ng2 hg2 Rg2 => ?_⟩
      have W15 := W14.same s15
      rw [greatest_same hd mem4] at Rg2
      refine ⟨_, rfl, _, _, .lst (SqL.of hg2) Rg2.dp, dp6 W15, shaped_rows _, shaped_rows _, _, rfl, ?_⟩
      rw [eq1]
      -- the three at the end
      refine ⟨_, rfl, q, _, rfl, .inl (SqL.of W15.hq), fun v4 hv4 => ?_⟩
      have W16 := W15.same (OW.Same.upd_new (o := .lst ys) (Same.refl _) hv4)
      refine ⟨v4, ys, due rs, d, rfl, .inl upd_same, W16.ry, dd, d1000, by omega, fun H17 g3 gs3 s17 ng3 hg3 Rg3 => ?_⟩
      have W17 := W16.same s17
      rw [greatest_of_due hd] at Rg3
      refine ⟨_, rfl, _, _, .lst (SqL.of hg3) Rg3.dp, dp6 W17, shaped_rows _, shaped_rows _, _, rfl, ?_⟩
      rw [eq2]
      refine ⟨_, rfl, p, xs, rfl, SqL.of W17.hp, fun v5 hv5 => ?_⟩
      have W18 := W17.same (OW.Same.upd_new (o := .lst xs.reverse) (Same.refl _) hv5)
      refine ⟨_, rfl, v5, q, _, _, rfl, rfl, upd_same, W18.hq, Nat.le_of_lt (small1000 (by rw [List.length_reverse, Paired.len W18.ry]; omega)), fun v6 hv6 => ?_⟩
      have W19 := W18.same (OW.Same.upd_new (o := .lst (xs.reverse ++ ys)) (Same.refl _) hv6)
      have mem6 : ∀ r, r ∈ rs.reverse ++ due rs ↔ r ∈ rs := fun r => by
        rw [List.mem_append, List.mem_reverse]
        exact ⟨fun z => z.elim (fun z => z) (due_sub hd), .inl⟩
      refine ⟨v6, _, rs.reverse ++ due rs, d, rfl, .inl upd_same, Rows.append (Rows.reverse W19.rx) W19.ry, fun r hr' => hd r ((mem6 r).mp hr'), d1000, by rw [List.length_append, List.length_reverse]; omega, fun H20 g4 gs4 s20 ng4 hg4 Rg4 => ?_⟩
      have W20 := W19.same s20
      rw [greatest_same hd mem6] at Rg4
      refine ⟨_, rfl, _, _, .lst (SqL.of hg4) Rg4.dp, dp6 W20, shaped_rows _, shaped_rows _, _, rfl, ?_⟩
      rw [eq2]
      refine ⟨Nat.zero_le _, fun v7 hv7 => ?_⟩
      refine ⟨v7, [], [], 0, rfl, .inl upd_same, .nil, (by intro r hr'; cases hr'), Nat.zero_le _, Nat.zero_le _, fun H22 g5 gs5 s22 ng5 hg5 Rg5 => ?_⟩
      rw [greatest_nil] at Rg5
      cases Rg5
      refine ⟨Nat.zero_le _, fun v8 hv8 => ?_⟩
      have hg5' : (upd H22 v8 (.lst [])) g5 = some (.lst []) := (upd_ne (ne_of_none hg5 hv8)).trans hg5
      refine ⟨.list [], .list [], .lst (SqL.of hg5') .nil, .lst (SqL.of upd_same) .nil, shaped_rows [], shaped_rows [], ?_⟩
      have e0 : PyData.eqv (.list []) (.list []) = true := eqv_rows [] []
      rw [e0]
      exact k _
end
end K65

set_option Elab.async false
set_option linter.all false
set_option maxRecDepth 100000
set_option maxHeartbeats 4000000
namespace K65
open PySem L2 OW
theorem all_mk {l : PySem.W.OpenLaw} {w : World} {K : PySem.W.Frag} {h : Heap} {mg : Str → Option Value} {fa : Addr} (X : K.In h) (G : h.Ns mainGlobals mg) (hfa : mg "law" = some (.ref fa))
    {a0 : Addr} {od0 an0 : Option Addr} {sl0 : Array (Option Value)} {oc0 kV0 dc0 pm0 cd0 ct0 : Value} {a1 : Addr} {od1 an1 : Option Addr} {sl1 : Array (Option Value)} {oc1 kV1 dc1 pm1 cd1 ct1 : Value} {a2 : Addr} {od2 an2 : Option Addr} {sl2 : Array (Option Value)} {oc2 kV2 dc2 pm2 cd2 ct2 : Value} {a3 : Addr} {od3 an3 : Option Addr} {sl3 : Array (Option Value)} {oc3 kV3 dc3 pm3 cd3 ct3 : Value} {a4 : Addr} {od4 an4 : Option Addr} {sl4 : Array (Option Value)} {oc4 kV4 dc4 pm4 cd4 ct4 : Value} {a5 : Addr} {od5 an5 : Option Addr} {sl5 : Array (Option Value)} {oc5 kV5 dc5 pm5 cd5 ct5 : Value} {a6 : Addr} {od6 an6 : Option Addr} {sl6 : Array (Option Value)} {oc6 kV6 dc6 pm6 cd6 ct6 : Value} {a7 : Addr} {od7 an7 : Option Addr} {sl7 : Array (Option Value)} {oc7 kV7 dc7 pm7 cd7 ct7 : Value} {a8 : Addr} {od8 an8 : Option Addr} {sl8 : Array (Option Value)} {oc8 kV8 dc8 pm8 cd8 ct8 : Value}
    (n0 : PySem.W.nsIn K mainGlobals "lies_below" = some (some (.ref a0))) (l0 : K.lookup a0 = some ⟨oc0, od0, .func (PySem.W.fnOf "lies_below" "lies_below" (defArgs slies_below) (defBody slies_below) (defScope slies_below) .none kV0 dc0 pm0 an0 cd0 ct0), sl0⟩) (c0 : PySem.W.codeIn K cd0 "lies_below" = true) (k0 : PySem.W.keepIn K (.ref a0) = true)
    (n1 : PySem.W.nsIn K mainGlobals "greatest_rows" = some (some (.ref a1))) (l1 : K.lookup a1 = some ⟨oc1, od1, .func (PySem.W.fnOf "greatest_rows" "greatest_rows" (defArgs sgreatest_rows) (defBody sgreatest_rows) (defScope sgreatest_rows) .none kV1 dc1 pm1 an1 cd1 ct1), sl1⟩) (c1 : PySem.W.codeIn K cd1 "greatest_rows" = true) (k1 : PySem.W.keepIn K (.ref a1) = true)
    (n2 : PySem.W.nsIn K mainGlobals "_law_box" = some (some (.ref a2))) (l2 : K.lookup a2 = some ⟨oc2, od2, .func (PySem.W.fnOf "_law_box" "_law_box" (defArgs s_law_box) (defBody s_law_box) (defScope s_law_box) .none kV2 dc2 pm2 an2 cd2 ct2), sl2⟩) (c2 : PySem.W.codeIn K cd2 "_law_box" = true) (k2 : PySem.W.keepIn K (.ref a2) = true)
    (n3 : PySem.W.nsIn K mainGlobals "_law_take" = some (some (.ref a3))) (l3 : K.lookup a3 = some ⟨oc3, od3, .func (PySem.W.fnOf "_law_take" "_law_take" (defArgs s_law_take) (defBody s_law_take) (defScope s_law_take) .none kV3 dc3 pm3 an3 cd3 ct3), sl3⟩) (c3 : PySem.W.codeIn K cd3 "_law_take" = true) (k3 : PySem.W.keepIn K (.ref a3) = true)
    (n4 : PySem.W.nsIn K mainGlobals "_law_pick" = some (some (.ref a4))) (l4 : K.lookup a4 = some ⟨oc4, od4, .func (PySem.W.fnOf "_law_pick" "_law_pick" (defArgs s_law_pick) (defBody s_law_pick) (defScope s_law_pick) .none kV4 dc4 pm4 an4 cd4 ct4), sl4⟩) (c4 : PySem.W.codeIn K cd4 "_law_pick" = true) (k4 : PySem.W.keepIn K (.ref a4) = true)
    (n5 : PySem.W.nsIn K mainGlobals "_law_drawn" = some (some (.ref a5))) (l5 : K.lookup a5 = some ⟨oc5, od5, .func (PySem.W.fnOf "_law_drawn" "_law_drawn" (defArgs s_law_drawn) (defBody s_law_drawn) (defScope s_law_drawn) .none kV5 dc5 pm5 an5 cd5 ct5), sl5⟩) (c5 : PySem.W.codeIn K cd5 "_law_drawn" = true) (k5 : PySem.W.keepIn K (.ref a5) = true)
    (n6 : PySem.W.nsIn K mainGlobals "_law_covered" = some (some (.ref a6))) (l6 : K.lookup a6 = some ⟨oc6, od6, .func (PySem.W.fnOf "_law_covered" "_law_covered" (defArgs s_law_covered) (defBody s_law_covered) (defScope s_law_covered) .none kV6 dc6 pm6 an6 cd6 ct6), sl6⟩) (c6 : PySem.W.codeIn K cd6 "_law_covered" = true) (k6 : PySem.W.keepIn K (.ref a6) = true)
    (n7 : PySem.W.nsIn K mainGlobals "_law_due" = some (some (.ref a7))) (l7 : K.lookup a7 = some ⟨oc7, od7, .func (PySem.W.fnOf "_law_due" "_law_due" (defArgs s_law_due) (defBody s_law_due) (defScope s_law_due) .none kV7 dc7 pm7 an7 cd7 ct7), sl7⟩) (c7 : PySem.W.codeIn K cd7 "_law_due" = true) (k7 : PySem.W.keepIn K (.ref a7) = true)
    (n8 : PySem.W.nsIn K mainGlobals "law" = some (some (.ref a8))) (l8 : K.lookup a8 = some ⟨oc8, od8, .func (PySem.W.fnOf "law" "law" (defArgs slaw) (defBody slaw) (defScope slaw) .none kV8 dc8 pm8 an8 cd8 ct8), sl8⟩) (c8 : PySem.W.codeIn K cd8 "law" = true) (k8 : PySem.W.keepIn K (.ref a8) = true)
    (z0 : PySem.W.nsIn K mainGlobals "all" = some none) (z1 : PySem.W.nsIn K mainGlobals "any" = some none) (z2 : PySem.W.nsIn K mainGlobals "zip" = some none) (z3 : PySem.W.nsIn K mainGlobals "tuple" = some none) (z4 : PySem.W.nsIn K mainGlobals "sorted" = some none) (z5 : PySem.W.nsIn K mainGlobals "int" = some none) (z6 : PySem.W.nsIn K mainGlobals "len" = some none) (z7 : PySem.W.nsIn K mainGlobals "range" = some none) (z8 : PySem.W.nsIn K mainGlobals "list" = some none) (z9 : PySem.W.nsIn K mainGlobals "isinstance" = some none) (z10 : PySem.W.nsIn K mainGlobals "repr" = some none) :
    ∃ fd : FuncData, (∀ (s : Shared) (v : Value), BindsTo s fd ⟨[v], []⟩ [("script", v)]) ∧ ∀ base : Heap, K.In base → base.Ns mainGlobals mg → TopOk l.prog w K mg base 4 fa fd ["script"] (spLaw K) := by
  have e := hfa.symm.trans (PySem.W.mg_of X G n8)
  cases e
  have F0 := fun_mk (st := slies_below) l0 c0 k0
  have b0 := F0.binds (ps := ["row", "other"]) fun _ _ _ _ _ _ us hl => match us, hl with | [_, _], _ => rfl
  have F1 := fun_mk (st := sgreatest_rows) l1 c1 k1
  have b1 := F1.binds (ps := ["rows"]) fun _ _ _ _ _ _ us hl => match us, hl with | [_], _ => rfl
  have F2 := fun_mk (st := s_law_box) l2 c2 k2
  have b2 := F2.binds (ps := ["script"]) fun _ _ _ _ _ _ us hl => match us, hl with | [_], _ => rfl
  have F3 := fun_mk (st := s_law_take) l3 c3 k3
  have b3 := F3.binds (ps := ["box", "many"]) fun _ _ _ _ _ _ us hl => match us, hl with | [_, _], _ => rfl
  have F4 := fun_mk (st := s_law_pick) l4 c4 k4
  have b4 := F4.binds (ps := ["box", "rows"]) fun _ _ _ _ _ _ us hl => match us, hl with | [_, _], _ => rfl
  have F5 := fun_mk (st := s_law_drawn) l5 c5 k5
  have b5 := F5.binds (ps := ["box"]) fun _ _ _ _ _ _ us hl => match us, hl with | [_], _ => rfl
  have F6 := fun_mk (st := s_law_covered) l6 c6 k6
  have b6 := F6.binds (ps := ["row", "rows"]) fun _ _ _ _ _ _ us hl => match us, hl with | [_, _], _ => rfl
  have F7 := fun_mk (st := s_law_due) l7 c7 k7
  have b7 := F7.binds (ps := ["rows"]) fun _ _ _ _ _ _ us hl => match us, hl with | [_], _ => rfl
  have T : Txt K mg := ⟨_, _, F0, PySem.W.mg_of X G n0, b0, _, _, F1, PySem.W.mg_of X G n1, b1, _, _, F2, PySem.W.mg_of X G n2, b2, _, _, F3, PySem.W.mg_of X G n3, b3, _, _, F4, PySem.W.mg_of X G n4, b4, _, _, F5, PySem.W.mg_of X G n5, b5, _, _, F6, PySem.W.mg_of X G n6, b6, _, _, F7, PySem.W.mg_of X G n7, b7, PySem.W.mg_none_of X G z0, PySem.W.mg_none_of X G z1, PySem.W.mg_none_of X G z2, PySem.W.mg_none_of X G z3, PySem.W.mg_none_of X G z4, PySem.W.mg_none_of X G z5, PySem.W.mg_none_of X G z6, PySem.W.mg_none_of X G z7, PySem.W.mg_none_of X G z8, PySem.W.mg_none_of X G z9, PySem.W.mg_none_of X G z10⟩
  exact ⟨_, fun s v => .of_eq rfl, fun base _ _ => ok_law T (fun_mk (st := slaw) l8 c8 k8)⟩
end K65
open PySem PySem.W PyProof.Rows in
set_option maxRecDepth 100000 in
set_option maxHeartbeats 0 in
theorem PySem.Challenge.cw_oneweight_k65_greatest_rows_of_any_list_holds : PySem.Challenge.rw_oneweight_k65_greatest_rows_of_any_list.Holds := by
  w_on; o_law; k_head; (case hw => w_witness2)
  k_fill
  refine OW.walk_top (n := 63) (k := 4) (x := "script") (l := PySem.Challenge.rw_oneweight_k65_greatest_rows_of_any_list) (sp := fun w => K65.spLaw _) rfl (by decide) rfl ⟨rfl, by decide, by decide⟩ (fun w h Y => PySem.W.kIn_of Y) ?F (fun _ _ a ms hl hS => ⟨a, ms, rfl, hS, hl, fun _ => rfl⟩)
  case F =>
    intro w mg fa h KX G hmg
    refine' K65.all_mk KX G hmg ?n0 ?l0 ?c0 ?k0 ?n1 ?l1 ?c1 ?k1 ?n2 ?l2 ?c2 ?k2 ?n3 ?l3 ?c3 ?k3 ?n4 ?l4 ?c4 ?k4 ?n5 ?l5 ?c5 ?k5 ?n6 ?l6 ?c6 ?k6 ?n7 ?l7 ?c7 ?k7 ?n8 ?l8 ?c8 ?k8 ?z0 ?z1 ?z2 ?z3 ?z4 ?z5 ?z6 ?z7 ?z8 ?z9 ?z10
    (case n0 => k_is)
    (case l0 => k_is)
    (case c0 => k_is)
    (case k0 => k_is)
    (case n1 => k_is)
    (case l1 => k_is)
    (case c1 => k_is)
    (case k1 => k_is)
    (case n2 => k_is)
    (case l2 => k_is)
    (case c2 => k_is)
    (case k2 => k_is)
    (case n3 => k_is)
    (case l3 => k_is)
    (case c3 => k_is)
    (case k3 => k_is)
    (case n4 => k_is)
    (case l4 => k_is)
    (case c4 => k_is)
    (case k4 => k_is)
    (case n5 => k_is)
    (case l5 => k_is)
    (case c5 => k_is)
    (case k5 => k_is)
    (case n6 => k_is)
    (case l6 => k_is)
    (case c6 => k_is)
    (case k6 => k_is)
    (case n7 => k_is)
    (case l7 => k_is)
    (case c7 => k_is)
    (case k7 => k_is)
    (case n8 => k_is)
    (case l8 => k_is)
    (case c8 => k_is)
    (case k8 => k_is)
    (case z0 => k_is)
    (case z1 => k_is)
    (case z2 => k_is)
    (case z3 => k_is)
    (case z4 => k_is)
    (case z5 => k_is)
    (case z6 => k_is)
    (case z7 => k_is)
    (case z8 => k_is)
    (case z9 => k_is)
    (case z10 => k_is)

