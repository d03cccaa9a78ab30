import PyProof.Rows.All
import Wide.All
import OpenK.AllK
import Wide.FinOn
import KE.SortData
import KE.KDictSum
import KE.KDictCopyH
import HandS.ForMost
import HandS.SortKw
import HandS.TupAny
import HandS.Zip
import HandS.Wide
import HandS.Style
import HandS.Flow
import HandS.Walk
import HandS.Text
import HandS.StrMore
import HandS.IsInst
import HandS.Evl
import HandS.More
import PySem.Challenge.RW_oneweight_k02_one_relation_many_writings
set_option Elab.async false
set_option linter.all false
set_option maxRecDepth 100000
set_option maxHeartbeats 4000000
namespace OW
open PySem PySem.Spec PyProof.Rows L2

/-! ### tuples of ints, sorted -/
def tupD (r : List Int) : PyData := .tuple (r.map .int)
theorem tup_le : PySem.W.dataLe (β := List Int) false tupD = fun p q => decide (p ≤ q) := by
  funext p q
  show (!PySem.W.dataLt (.tuple (q.map .int)) (.tuple (p.map .int))) = _
  rw [PySem.W.dataLt_tuple]
  show (!PySem.W.rowLt (q.map .int) (p.map .int)) = _
  rw [PySem.W.dataLt_ints]
  by_cases h : q < p
  · have h' : ¬ p ≤ q := fun r => List.not_lt.mpr r h
    simp [h, h']
  · have h' : p ≤ q := List.not_lt.mp h
    simp [h, h']
theorem tup_ge : PySem.W.dataLe (β := List Int) true tupD = fun p q => decide (q ≤ p) := by
  funext p q
  show (!PySem.W.dataLt (.tuple (p.map .int)) (.tuple (q.map .int))) = _
  rw [PySem.W.dataLt_tuple]
  show (!PySem.W.rowLt (p.map .int) (q.map .int)) = _
  rw [PySem.W.dataLt_ints]
  by_cases h : p < q
  · have h' : ¬ q ≤ p := fun r => List.not_lt.mpr r h
    simp [h, h']
  · have h' : q ≤ p := List.not_lt.mp h
    simp [h, h']
theorem tup_alike (p q : List Int) : PySem.W.alike (tupD p) (tupD q) = true := by
  show PySem.W.alike (.tuple (p.map .int)) (.tuple (q.map .int)) = true
  rw [PySem.W.alike]
  exact PySem.W.alike_ints p q
theorem tup_depth (p : List Int) : (tupD p).depth ≤ 1 := by
  show (PyData.tuple (p.map .int)).depth ≤ 1
  rw [PyData.depth, PySem.W.depth_ints]
  omega
section
variable {prog : Program} {w : World} {A : Around} {E : Value → Shared → Prop} {s : Shared}
open PySem.W in
theorem sortsAt_tups {vs : List Value} {rs : List (List Int)} {d : Nat} (e : EachIs (fun v r => ∃ as, Reads s.heap v (tupD r) as) vs rs) (hd : ∀ r ∈ rs, r.length = d) (hu : A.units + 1 < cLine) :
    SortsAt prog w A s (dataKind s.heap (rs.map tupD)) vs := by
  have hal : AllAlike (rs.map tupD) := AllAlike.of tup_alike
  have e' : EachIs (fun v d => ∃ as, Reads s.heap v d as) vs (rs.map tupD) := each_map (R := fun v d => ∃ as, Reads s.heap v d as) tupD e
  have hb : ∀ x, x ∈ rs.map tupD → A.units + x.depth < cLine := fun x hx => by
    obtain ⟨r, _, rfl⟩ := List.mem_map.mp hx
    have := tup_depth r
    omega
  cases d with
  | succ d =>
    refine SortsAt.data e' hal (.inl fun x hx => ?_) hb
    obtain ⟨r, hr, rfl⟩ := List.mem_map.mp hx
    have hl := hd r hr
    cases r with
    | nil => cases hl
    | cons a t => exact ⟨_, _, rfl⟩
  | zero =>
    have h0 : ∀ x, x ∈ rs.map tupD → x = .tuple [] := fun x hx => by
      obtain ⟨r, hr, rfl⟩ := List.mem_map.mp hx
      have hl := hd r hr
      cases r with
      | nil => rfl
      | cons a t => cases hl
    refine ⟨fun v hv => ?_, oneType', ?_, fun h2 E Q hq => ?_⟩
    · obtain ⟨x, hx, as, r⟩ := e'.left v hv
      exact ⟨_, dataKind_some hal hx r⟩
    · intro E x y a b Q ha hb' hq
      obtain ⟨dx, as, hdx, ra, rfl⟩ := dataKind_inv ha
      obtain ⟨dy, as', hdy, rb, rfl⟩ := dataKind_inv hb'
      obtain rfl := h0 _ hdx
      obtain rfl := h0 _ hdy
      have hq' : Q (dataLt (.tuple []) (.tuple [])) s := hq
      have ef : dataLt (.tuple []) (.tuple []) = false := by rw [dataLt_tuple]; exact lex_irrefl _
      rw [ef] at hq'
      cases ra with
      | @tuple l o xs n _ _ g1 g2 g3 g4 =>
        cases rb with
        | @tuple l' o' xs' n' _ _ k1 k2 k3 k4 =>
          have n1 : xs = #[] := by
            have := SeqAt.ReadsAll.length _ _ _ g4
            have : xs.size = 0 := by simpa using this
            exact Array.eq_empty_of_size_eq_zero this
          have n2 : xs' = #[] := by
            have := SeqAt.ReadsAll.length _ _ _ k4
            have : xs'.size = 0 := by simpa using this
            exact Array.eq_empty_of_size_eq_zero this
          subst n1 n2
          obtain ⟨cls, dd, data, sl⟩ := o
          obtain ⟨cls2, dd2, data2, sl2⟩ := o'
          simp only at g2 g3 k2 k3
          subst g2 g3 k2 k3
          rw [keyLt'_oneType, oneLt'_eq]
          simp only [if_true]
          refine wpAny_bind (wpAny_cRoomFor (by omega) ?_)
          refine wpAny_bind (wpAny_callSpecialIfBound?_slot (T := "tuple") ⟨_, g1, rfl⟩ F.slot_tuple_lt (call_meets F.slot_tuple_lt ⟨_, g1, rfl⟩ F.entry_tuple_lt (F.args_tuple_lt_2 _ _)
            (SeqAt.tuple_ltAt l l' #[] #[] n n' dd dd2 sl sl2 (fun _ => true) (fun _ => true)) ⟨g1, k1, fun j j1 _ => absurd j1 (by simp), fun j j1 _ => absurd j1 (by simp), ?_⟩))
          exact wpAny_truthy_bool (by simpa [SeqAt.firstLt] using hq')
    · obtain ⟨v₁, v₂, rest, rfl⟩ : ∃ v₁ v₂ rest, vs = v₁ :: v₂ :: rest := by
        match vs, h2 with
        | [], h2 => simp at h2
        | [_], h2 => simp at h2
        | v₁ :: v₂ :: rest, _ => exact ⟨v₁, v₂, rest, rfl⟩
      have hT : ∀ v ∈ v₁ :: v₂ :: rest, Looks (model prog w) s.heap (typeOf v) (Value.type "tuple") := fun v hv => by
        obtain ⟨x, hx, as, r⟩ := e'.left v hv
        obtain rfl := h0 _ hx
        exact looks_reads r
      rw [keyKind'_eq, List.mapM_toArray, map_eq_pure_bind]
      refine wpAny_bind (wpAny_bind (kas_mapM (r := none) _ (fun v hv Q' hq => ?_) (wpAny_pure ?_)))
      · rw [kas_first_eq]
        refine wpAny_bind ((hT v hv).here ?_)
        rw [if_neg (by decide)]
        obtain ⟨x, hx, as, r⟩ := e'.left v hv
        obtain rfl := h0 _ hx
        cases r with
        | @tuple l o xs n _ _ g1 g2 g3 g4 =>
          have n1 : xs = #[] := by
            have := SeqAt.ReadsAll.length _ _ _ g4
            have : xs.size = 0 := by simpa using this
            exact Array.eq_empty_of_size_eq_zero this
          subst n1
          refine wpAny_bind (listItems_at g1 g3 ?_)
          exact wpAny_pure hq
      · rw [if_neg (by simp), if_neg (by simp)]
        rw [oneTypeOnly'_eq, List.mapM_toArray, map_eq_pure_bind]
        refine wpAny_bind (wpAny_bind (wpAny_bind (kas_mapM (r := Value.type "tuple") _ (fun v hv Q' hq => (hT v hv).here hq) (wpAny_pure ?_))))
        have hall : ((List.map (fun _ => Value.type "tuple") (v₁ :: v₂ :: rest)).toArray.all fun x => x == Value.type "tuple") = true := by
          simp only [List.all_toArray, List.all_map, List.all_eq_true]
          intro _ _
          exact beq_self_eq_true _
        have h0 : (List.map (fun _ => Value.type "tuple") (v₁ :: v₂ :: rest)).toArray[0]? = some (Value.type "tuple") := by simp
        rw [h0]
        simp only [hall, if_true]
        exact wpAny_pure (wpAny_pure hq)
end
end OW

set_option Elab.async false
set_option linter.all false
set_option maxRecDepth 100000
set_option maxHeartbeats 4000000
namespace OW
open PySem PySem.Spec PyProof.Rows L2

/-! ### rows: values that stand for tuples of ints -/
def Tp (K : PySem.W.Frag) (H : Hp) (v : V) (r : List Int) : Prop := ∃ a, v = .ref a ∧ H a = some (.tup (r.map V.int))
abbrev Rows (K : PySem.W.Frag) (H : Hp) (vs : List V) (rs : List (List Int)) : Prop := Paired (Tp K H) vs rs
theorem same_t {K : PySem.W.Frag} {H H' : Hp} {a : Addr} {xs : List V} (e : Same H H') (h : SqT K H a xs) : SqT K H' a xs := by
  rcases h with (h | ⟨o, h⟩) | h
  · exact .inl (.inl (e _ _ h))
  · exact .inl (.inr ⟨o, e _ _ h⟩)
  · exact .inr h
theorem Tp.mono {K : PySem.W.Frag} {H H' : Hp} {v : V} {r : List Int} (e : Same H H') (h : Tp K H v r) : Tp K H' v r := by
  obtain ⟨a, ev, h⟩ := h
  exact ⟨a, ev, e _ _ h⟩
theorem Rows.mono {K : PySem.W.Frag} {H H' : Hp} {vs : List V} {rs : List (List Int)} (e : Same H H') (h : Rows K H vs rs) : Rows K H' vs rs :=
  Paired.mapP h fun _ _ q => q.mono e
theorem dpAll_ints {K : PySem.W.Frag} {H : Hp} : ∀ r : List Int, DpAll K H (r.map V.int) (r.map PyData.int)
  | [] => .nil
  | x :: r => .cons (.int x) (dpAll_ints r)
theorem Tp.dp {K : PySem.W.Frag} {H : Hp} {v : V} {r : List Int} (h : Tp K H v r) : Dp K H v (tupD r) := by
  obtain ⟨a, rfl, h⟩ := h
  exact .tup (SqT.of h) (dpAll_ints r)
theorem Rows.dp {K : PySem.W.Frag} {H : Hp} : ∀ {vs : List V} {rs : List (List Int)}, Rows K H vs rs → DpAll K H vs (rs.map tupD)
  | _, _, .nil => .nil
  | _, _, .cons h t => .cons h.dp (Rows.dp t)
theorem Paired.len {α β : Type} {F : α → β → Prop} : ∀ {l : List α} {m : List β}, Paired F l m → l.length = m.length
  | _, _, .nil => rfl
  | _, _, .cons _ t => congrArg (· + 1) (Paired.len t)
theorem Rows.get {K : PySem.W.Frag} {H : Hp} : ∀ {vs : List V} {rs : List (List Int)} {i : Nat} {v : V}, Rows K H vs rs → vs[i]? = some v → ∃ r, rs[i]? = some r ∧ Tp K H v r
  | _, _, _, _, .nil, e => by simp at e
  | _, _, 0, _, .cons h _, e => by
    have e' := Option.some.inj e
    subst e'
    exact ⟨_, rfl, h⟩
  | _, _, i + 1, _, .cons _ t, e => Rows.get (i := i) t e
theorem Rows.snoc {K : PySem.W.Frag} {H : Hp} {vs : List V} {rs : List (List Int)} {v : V} {r : List Int} (h : Rows K H vs rs) (q : Tp K H v r) : Rows K H (vs ++ [v]) (rs ++ [r]) := Paired.snoc h q
theorem Rows.append {K : PySem.W.Frag} {H : Hp} : ∀ {vs ws : List V} {rs ss : List (List Int)}, Rows K H vs rs → Rows K H ws ss → Rows K H (vs ++ ws) (rs ++ ss)
  | _, _, _, _, .nil, q => q
  | _, _, _, _, .cons h t, q => .cons h (Rows.append t q)
theorem Rows.reverse {K : PySem.W.Frag} {H : Hp} : ∀ {vs : List V} {rs : List (List Int)}, Rows K H vs rs → Rows K H vs.reverse rs.reverse
  | _, _, .nil => .nil
  | _, _, .cons h t => by
    rw [List.reverse_cons, List.reverse_cons]
    exact Rows.snoc (Rows.reverse t) h
theorem Rows.drop {K : PySem.W.Frag} {H : Hp} : ∀ {vs : List V} {rs : List (List Int)} (n : Nat), Rows K H vs rs → Rows K H (vs.drop n) (rs.drop n)
  | _, _, 0, h => h
  | _, _, _ + 1, .nil => .nil
  | _, _, n + 1, .cons _ t => Rows.drop n t
theorem Rows.take {K : PySem.W.Frag} {H : Hp} : ∀ {vs : List V} {rs : List (List Int)} (n : Nat), Rows K H vs rs → Rows K H (vs.take n) (rs.take n)
  | _, _, 0, _ => .nil
  | _, _, _ + 1, .nil => .nil
  | _, _, n + 1, .cons h t => .cons h (Rows.take n t)

/-! ### data: equality and repr of rows -/
theorem eqv_tup (p q : List Int) : PyData.eqv (tupD p) (tupD q) = decide (p = q) := by
  have h : ∀ p q : List Int, PyData.eqvAll (p.map .int) (q.map .int) = decide (p = q) := by
    intro p
    induction p with
    | nil =>
      intro q
      cases q with
      | nil => simp [PyData.eqvAll]
      | cons y q => simp [PyData.eqvAll]
    | cons x p ih =>
      intro q
      cases q with
      | nil => simp [PyData.eqvAll]
      | cons y q =>
        show PyData.eqvAll (.int x :: p.map .int) (.int y :: q.map .int) = _
        rw [PySem.W.eqv_all_cons, ih q]
        by_cases e : x = y <;> by_cases e2 : p = q <;> simp [PyData.eqv, e, e2]
  show PyData.eqv (.tuple (p.map .int)) (.tuple (q.map .int)) = _
  rw [PyData.eqv]
  exact h p q
theorem eqv_rows (rs ss : List (List Int)) : PyData.eqv (.list (rs.map tupD)) (.list (ss.map tupD)) = decide (rs = ss) := by
  rw [PyData.eqv]
  induction rs generalizing ss with
  | nil =>
    cases ss with
    | nil => simp [PyData.eqvAll]
    | cons y q => simp [PyData.eqvAll]
  | cons x p ih =>
    cases ss with
    | nil => simp [PyData.eqvAll]
    | cons y q =>
      show PyData.eqvAll (tupD x :: p.map tupD) (tupD y :: q.map tupD) = _
      rw [PySem.W.eqv_all_cons, ih q, eqv_tup]
      by_cases e : x = y <;> by_cases e2 : p = q <;> simp [e, e2]
theorem canLay_ints : ∀ r : List Int, PyData.canLayAll0 (r.map .int) = true
  | [] => by simp [PyData.canLayAll0]
  | x :: r => by
    show PyData.canLayAll0 (.int x :: r.map .int) = true
    rw [PyData.canLayAll0, canLay_ints r]
    simp [PyData.canLay0]
theorem canLay_tup (r : List Int) : (tupD r).canLay0 = true := by
  show (PyData.tuple (r.map .int)).canLay0 = true
  rw [PyData.canLay0]
  exact canLay_ints r
theorem canLay_rows : ∀ rs : List (List Int), PyData.canLayAll0 (rs.map tupD) = true
  | [] => by simp [PyData.canLayAll0]
  | x :: r => by
    show PyData.canLayAll0 (tupD x :: r.map tupD) = true
    rw [PyData.canLayAll0, canLay_rows r, canLay_tup]
    rfl
theorem depth_rows : ∀ rs : List (List Int), PyData.depthAll (rs.map tupD) ≤ 1
  | [] => by simp [PyData.depthAll]
  | x :: r => by
    show PyData.depthAll (tupD x :: r.map tupD) ≤ 1
    rw [PyData.depthAll]
    have h1 := tup_depth x
    have h2 := depth_rows r
    omega
theorem shaped_tup (r : List Int) : SeqAt.shaped (tupD r) = true := by
  unfold SeqAt.shaped
  rw [canLay_tup, Bool.true_and]
  have := tup_depth r
  exact decide_eq_true (by omega)
theorem shaped_rows (rs : List (List Int)) : SeqAt.shaped (.list (rs.map tupD)) = true := by
  unfold SeqAt.shaped
  rw [PyData.canLay0, canLay_rows, Bool.true_and, PyData.depth]
  have := depth_rows rs
  exact decide_eq_true (by omega)
end OW

set_option Elab.async false
set_option linter.all false
set_option maxRecDepth 100000
set_option maxHeartbeats 4000000
namespace OW
open PySem PySem.Spec PyProof.Rows L2

/-! ### sorted over rows -/
def rSrt (K : PySem.W.Frag) : List V → Hp → VK → Prop := fun vs H Q => ∃ (a : Addr) (xs : List V) (rs : List (List Int)) (d : Nat), vs = [V.ref a] ∧ SqL K H a xs ∧ Rows K H xs rs ∧ (∀ r ∈ rs, r.length = d) ∧
  ∀ (ys : List V) (p : Addr), Rows K H ys (rs.mergeSort fun p q => decide (p ≤ q)) → H p = none → Q (.ref p) (upd H p (.lst ys))
def rSrtDR (K : PySem.W.Frag) : List V → List V → Hp → VK → Prop := fun vs zs H Q => ∃ (a : Addr) (kvs : List (List Key × V)) (rs : List (List Int)) (d : Nat), vs = [V.ref a] ∧ zs = [.bl true] ∧ H a = some (.dT kvs) ∧ kvs.map (·.1) = rs.map (fun r => r.map Sum.inl) ∧
  (∀ r ∈ rs, r.length = d) ∧ ∀ (ys : List V) (p : Addr), Rows K H ys (rs.mergeSort fun p q => decide (q ≤ p)) → H p = none → Q (.ref p) (upd H p (.lst ys))
section
variable {X : Cx}
/-- the values and what they stand for -/
theorem each_rows {pins : List (Addr × Obj)} {σ : L2.St} {H : Hp} {s : Shared} (I : Inv X pins σ H s) : ∀ {vs : List V} {rs : List (List Int)} {us : List Value}, Rows X.K H vs rs → Vals vs us →
    PySem.W.EachIs (fun u r => (∃ v, RelV v u ∧ Tp X.K H v r) ∧ ∃ as, Reads s.heap u (tupD r) as) us rs
  | _, _, _, .nil, .nil => .nil
  | _, _, _, .cons h t, .cons r tr => .cons ⟨⟨_, r, h⟩, Dp.reads I _ _ _ h.dp r⟩ (each_rows I t tr)
theorem rows_each {H : Hp} : ∀ {us : List Value} {rs : List (List Int)}, PySem.W.EachIs (fun u r => ∃ v, RelV v u ∧ Tp X.K H v r) us rs → ∃ vs, Vals vs us ∧ Rows X.K H vs rs
  | _, _, .nil => ⟨[], .nil, .nil⟩
  | _, _, .cons ⟨v, r, h⟩ t => by
    obtain ⟨vs, h1, h2⟩ := rows_each t
    exact ⟨v :: vs, .cons r h1, .cons h h2⟩
theorem cr_srt (hu : X.A.units + 64 < cLine) : CallR X (.builtin "sorted") (rSrt X.K) := by
  intro pins s σ H vs us Q I r h
  obtain ⟨a, xs, rs, d, rfl, hs, hr, hd, q⟩ := h
  obtain rfl := Vals.ref1 r
  obtain ⟨its, rv, hl, hz⟩ := I.list hs
  have e := each_rows I hr rv
  have e1 := e.mono fun _ _ h => h.1
  have e2 := e.mono fun _ _ h => h.2
  have kp : ∀ b o, s.heap.get? b = some o → (PySem.W.sortingHeap (PySem.W.copyHeap s.heap its) (s.heap.objs.size + 1) its).get? b = some o := fun _ _ => PySem.W.sorting_copy_old
  have e3 : PySem.W.EachIs (fun u r => ∃ as, Reads (PySem.W.sortingHeap (PySem.W.copyHeap s.heap its) (s.heap.objs.size + 1) its) u (tupD r) as) its rs := e2.mono fun _ _ ⟨as, r⟩ => ⟨as, PyProof.Rows.Reads.keeps kp r⟩
  have lenI : its.length = rs.length := e.length
  have hzI : its.length ≤ sizeLine := by rw [← rv.length]; exact hz
  refine PySem.W.sorted_vals hl.isList (sortsAt_tups (s := { s with heap := PySem.W.sortingHeap (PySem.W.copyHeap s.heap its) (s.heap.objs.size + 1) its }) e3 hd (by show X.A.units + 1 + 1 + 1 < cLine; omega)) hzI ?_
  have e4 := PySem.W.sortVals_data (enc := tupD) false e1 e3 (PySem.W.AllAlike.of tup_alike)
  rw [tup_le] at e4
  obtain ⟨ys, k1, k2⟩ := rows_each e4
  obtain ⟨ep, he'⟩ := PyProof.Rows.sortedAll_at s.heap its (PySem.W.sortVals (PySem.W.dataKind (PySem.W.sortingHeap (PySem.W.copyHeap s.heap its) (s.heap.objs.size + 1) its) (rs.map tupD)) false its its).toArray
  have hlen : ys.length ≤ sizeLine := by
    have q1 := k1.length
    have q2 := PySem.W.sortVals_length (κ := PySem.W.dataKind (PySem.W.sortingHeap (PySem.W.copyHeap s.heap its) (s.heap.objs.size + 1) its) (rs.map tupD)) false (ks := its) (vs := its) rfl
    omega
  exact ⟨.ref _, upd H (s.heap.objs.size + 1) (.lst ys), I.laid (t' := s.toks) (fun _ _ => PyProof.Rows.sortedAll_old) (Nat.le_succ _) ⟨hlen, _, ep, k1, he'⟩, rfl, q _ _ k2 (I.hok.fresh (Nat.le_succ _))⟩
theorem each_dict {pins : List (Addr × Obj)} {σ : L2.St} {H : Hp} {s : Shared} (I : Inv X pins σ H s) : ∀ {kvs : List (List Key × V)} {xs : List (List Key × Addr × Value)} {rs : List (List Int)},
    Paired (fun (p : List Key × V) (q : List Key × Addr × Value) => p.1 = q.1 ∧ H q.2.1 = some (.tup (p.1.map kV)) ∧ RelV p.2 q.2.2) kvs xs → kvs.map (·.1) = rs.map (fun r => r.map Sum.inl) →
    Paired (fun (q : List Key × Addr × Value) r => Tp X.K H (.ref q.2.1) r) xs rs
  | _, _, rs, .nil, e => by
    cases rs with
    | nil => exact .nil
    | cons _ _ => cases e
  | _, _, rs, .cons h t, e => by
    cases rs with
    | nil => cases e
    | cons r rs =>
      rw [List.map_cons, List.map_cons] at e
      injection e with e1 e2
      refine .cons ⟨_, rfl, ?_⟩ (each_dict I t e2)
      have h2 := h.2.1
      rw [e1] at h2
      have e3 : (r.map (Sum.inl : Int → Key)).map kV = r.map V.int := by
        rw [List.map_map]
        rfl
      rw [e3] at h2
      exact h2
theorem cr_srtDR (hu : X.A.units + 64 < cLine) (hcalm : X.calm = true) : CallRK X (.builtin "sorted") [Str.ofString "reverse"] (rSrtDR X.K) := by
  intro pins s σ H vs zs us ws Q I r rz h
  obtain ⟨a, kvs, rs, d, rfl, rfl, ha, hk, hd, q⟩ := h
  obtain rfl := Vals.ref1 r
  obtain ⟨w1, rfl, e1⟩ := vals1 rz
  obtain rfl : w1 = Value.bool true := e1
  obtain ⟨hz, hsm, xs, hp, o, es, ep, ho, hex, hdat, hes, hnd⟩ := I.hok a _ ha
  have hraw : s.heap.DictRaw a es ep := ⟨o, ho, hex, hdat⟩
  have hrows := each_dict I hp hk
  have lx : es.size = xs.length := by
    have := congrArg List.length hes
    simpa using this
  have lk : kvs.length = xs.length := Paired.len hp
  have lr : xs.length = rs.length := Paired.len hrows
  have hn : es.size ≤ sizeLine := by omega
  refine PyProof.Rows.call_function_entry_kw PyProof.Rows.kind_sorted PyProof.Rows.plain_sorted PyProof.Rows.entry_sorted (PyProof.Rows.args_sorted_rev _ _) ?_
  unfold Builtin.«sorted»
  refine wpAny_bind (m := checkCount "sorted" 1 1 _) (wpAny_pure ?_)
  refine wpAny_bind (PySem.W.kdu_collect (A := X.A.in1) (PySem.KdlSrc.rawDict (prog := X.prog) (w := X.w) (es := es) (ep := ep) hsm) (I.ok.hd hcalm) hraw hn fun h' tk acc hkp hacc => ?_)
  have I1 : Inv X pins σ H { s with heap := h', toks := tk } := I.kept hkp
  have lenA : acc.toList.length = rs.length := by
    rw [Array.length_toList, hacc.1]
    omega
  have hv : acc.toList = xs.map (fun q => Value.ref q.2.1) := by
    refine List.ext_getElem? fun i => ?_
    by_cases hi : i < acc.toList.length
    · obtain ⟨v, ev⟩ : ∃ v, acc.toList[i]? = some v := ⟨_, List.getElem?_eq_getElem hi⟩
      obtain ⟨hi2, e⟩ := hacc.2 i v (by rw [← Array.getElem?_toList]; exact ev)
      have e5 : es.toList[i]? = some es[i] := by
        rw [Array.getElem?_toList]
        exact Array.getElem?_eq_getElem hi2
      rw [hes, List.getElem?_map] at e5
      rw [ev, List.getElem?_map]
      cases e6 : xs[i]? with
      | none =>
        rw [e6] at e5
        cases e5
      | some y =>
        rw [e6] at e5
        have e7 := Option.some.inj e5
        rw [e, ← e7]
        rfl
    · rw [List.getElem?_eq_none (by omega), List.getElem?_eq_none (by rw [List.length_map]; omega)]
  have e : PySem.W.EachIs (fun u r => (∃ v, RelV v u ∧ Tp X.K H v r) ∧ ∃ as, Reads h' u (tupD r) as) acc.toList rs := by
    rw [hv]
    have go : ∀ {xs : List (List Key × Addr × Value)} {rs : List (List Int)}, Paired (fun (q : List Key × Addr × Value) r => Tp X.K H (.ref q.2.1) r) xs rs →
        PySem.W.EachIs (fun u r => (∃ v, RelV v u ∧ Tp X.K H v r) ∧ ∃ as, Reads h' u (tupD r) as) (xs.map fun q => Value.ref q.2.1) rs := by
      intro xs rs hh
      induction hh with
      | nil => exact .nil
      | @cons q r _ _ g _ ih => exact .cons ⟨⟨V.ref q.2.1, (rfl : Value.ref q.2.1 = Value.ref q.2.1), g⟩, Dp.reads I1 _ (V.ref q.2.1) _ g.dp (rfl : Value.ref q.2.1 = Value.ref q.2.1)⟩ ih
    exact go hrows
  refine wpAny_bind (wpAny_newList ?_ (by omega))
  have hoL : (h'.push (seqObj "list" acc.toList.toArray 0)).get? h'.objs.size = some (seqObj "list" acc.toList.toArray 0) := Heap.get?_push_size _ rfl
  have kp1 : ∀ b o, h'.get? b = some o → (h'.push (seqObj "list" acc.toList.toArray 0)).get? b = some o := fun b o g => Heap.get?_push_of_some _ g
  have kp2 : ∀ b o, h'.get? b = some o → (PySem.W.sortingHeap (h'.push (seqObj "list" acc.toList.toArray 0)) h'.objs.size acc.toList).get? b = some o := fun b o g =>
    PySem.W.sortingHeap_old (Nat.ne_of_lt (Heap.lt_size g)) (kp1 b o g)
  have f1 := e.mono fun _ _ h => h.1
  have f2 := e.mono fun _ _ h => h.2
  have f3 : PySem.W.EachIs (fun u r => ∃ as, Reads (PySem.W.sortingHeap (h'.push (seqObj "list" acc.toList.toArray 0)) h'.objs.size acc.toList) u (tupD r) as) acc.toList rs := f2.mono fun _ _ ⟨as, r⟩ => ⟨as, PyProof.Rows.Reads.keeps kp2 r⟩
  have f4 := PySem.W.sortVals_data (enc := tupD) true f1 f3 (PySem.W.AllAlike.of tup_alike)
  rw [tup_ge] at f4
  obtain ⟨ys, k1, k2⟩ := rows_each f4
  obtain ⟨c, hc⟩ := PyProof.Rows.sortedHeap_at (vs := acc.toList) (out := (PySem.W.sortVals (PySem.W.dataKind (PySem.W.sortingHeap (h'.push (seqObj "list" acc.toList.toArray 0)) h'.objs.size acc.toList) (rs.map tupD)) true acc.toList acc.toList).toArray) hoL
  have hlen : ys.length ≤ sizeLine := by
    have q1 := k1.length
    have q2 := PySem.W.sortVals_length (κ := PySem.W.dataKind (PySem.W.sortingHeap (h'.push (seqObj "list" acc.toList.toArray 0)) h'.objs.size acc.toList) (rs.map tupD)) true (ks := acc.toList) (vs := acc.toList) rfl
    omega
  show wpAny _ _ _ _ _ { s with heap := h'.push (seqObj "list" acc.toList.toArray 0), toks := tk }
  refine wpAny_bind (wpAny_holding (PyProof.Rows.wpAny_call_entry_kw PyProof.Rows.slot_list_sort ⟨_, hoL, rfl⟩ PyProof.Rows.entry_list_sort
    (PySem.W.list_sort_rev_vals (s := { s with heap := h'.push (seqObj "list" acc.toList.toArray 0), toks := tk }) (κ := PySem.W.dataKind (PySem.W.sortingHeap (h'.push (seqObj "list" acc.toList.toArray 0)) h'.objs.size acc.toList) (rs.map tupD)) hoL
      (sortsAt_tups (s := { s with heap := PySem.W.sortingHeap (h'.push (seqObj "list" acc.toList.toArray 0)) h'.objs.size acc.toList, toks := tk }) f3 hd (by show X.A.units + 1 + 1 + 1 < cLine; omega)) (by omega) ⟨_, rfl, wpAny_pure ⟨_, rfl, ?_⟩⟩)
    (PyProof.Rows.args_list_sort_rev _ _)))
  refine ⟨.ref h'.objs.size, upd H h'.objs.size (.lst ys), I1.laid (t' := tk) (fun b o g => ?_) (Nat.le_refl _) ⟨hlen, _, c, k1, hc⟩, rfl, q _ _ k2 (I1.hok.fresh (Nat.le_refl _))⟩
  exact (PyProof.Rows.sortedHeap_old (Nat.ne_of_lt (Heap.lt_size g)) (by rw [PyProof.Rows.size_push']; exact Nat.lt_succ_of_lt (Heap.lt_size g))).trans (kp1 b o g)
end
end OW

set_option Elab.async false
set_option linter.all false
set_option maxRecDepth 100000
set_option maxHeartbeats 4000000
namespace OW
open PySem PySem.Spec PyProof.Rows L2

/-! ### repr of data (no repr runs around) -/
def rReprD (K : PySem.W.Frag) : List V → Hp → VK → Prop := fun vs H Q => ∃ (a : Addr) (d : PyData), vs = [V.ref a] ∧ Dp K H (.ref a) d ∧ d.showable = true ∧ d.hasDict = false ∧ d.depth ≤ 60 ∧ d.shown.length ≤ sizeLine ∧ Q (.str d.shown) H
section
variable {X : Cx}
theorem cr_reprD (hg : X.A.guards = some []) (hu : X.A.units + 64 < cLine) : CallR X (.builtin "repr") (rReprD X.K) := by
  intro pins s σ H vs us Q I r h
  obtain ⟨a, d, rfl, hd, h1, h2, h3, h4, q⟩ := h
  obtain rfl := Vals.ref1 r
  obtain ⟨as, rd⟩ := Dp.reads I d (V.ref a) (Value.ref a) hd rfl
  exact repr_of_reads' rd h1 (PyData.noDict_hsm h2) hg (by omega) (fun _ _ e => e) (fun h' u tk hk => ⟨.str d.shown, H, I.kept hk, ⟨u, rfl⟩, q⟩) h4
end

/-! ### a def that runs where no repr runs (the law itself) -/
structure TopOk (P : Program) (w : World) (K : PySem.W.Frag) (mg : Str → Option Value) (base : Heap) (k : Nat) (f : Addr) (fd : FuncData) (ps : List Str) (sp : Sp) : Prop where
  run : ∀ (A : Around) (outer : List Env) (s : Shared) (H : Hp) (args : Args) (us : List Value) (vs : List V) (Q : VK) (E : XK), A.guards = some [] → Room k A → Env0 P w K mg base A outer s H → BindsTo s fd args (ps.zip us) → Vals vs us → sp vs H Q E →
    codeAny (model P w) A (.call (.ref f) args) (CR CX0 outer P w H s Q E) s
section
variable {P : Program} {w : World} {K : PySem.W.Frag} {mg : Str → Option Value} {base : Heap}
theorem topOk_of {x qual : Str} {st : Stmt} {f : Addr} {fd : FuncData} {N ps : List Str} {k : Nat} {sp : Sp} (F : Fun K x qual st f fd) (S : FnScope N ps (defScope st)) (len : ∀ vs H Q E, sp vs H Q E → vs.length = ps.length)
    (hbody : ∀ (cdv : Value) (A : Around) (outer : List Env) (s : Shared) (H : Hp) (vs : List V) (Q : VK) (E : XK), A.guards = some [] → Room k (A.deeper (envOfC qual (defScope st) s.heap.objs.size f cdv)) → sp vs H Q E →
      ∃ t, PSs (cxOf CX0 P w K mg base N qual (defScope st) f cdv A outer s H E).nox (defBody st) t ∧ t { nx := fun _ H' => Q .non H', rt := Q } (start N vs) H) :
    TopOk P w K mg base (k + 1) f fd ps sp := by
  obtain ⟨oc, od, kV, doc, pm, an, cdv, ct, osl, rfl, lk, hcd⟩ := F.ex
  constructor
  intro A outer s H args us vs Q E hg hr e0 hb r hsp
  have X0 : K.In s.heap := e0.mod.kin.keeps (fun b o e => (e0.bs b o e).1)
  have L0 : s.heap.NoLimit := e0.mod.nolimit.keeps (fun b o e => (e0.bs b o e).1)
  have hl := len _ _ _ _ hsp
  obtain ⟨t, ht, hq⟩ := hbody cdv A outer s H vs Q E hg (hr.deeper _) hsp
  refine codeAny_call_function hr.depth (X0 f _ lk) rfl S.co S.gen rfl (PySem.W.codeRec_of X0 hcd) (hb _ _ _ _ ?_)
  refine wpAny_newFunctionEnv_cells S.kind ?_ (fun env he s1 x => ?_)
  · intro y hy
    have m := S.par y.1 (List.of_mem_zip (a := y.1) (b := y.2) hy).1
    rcases m with m | m
    · exact Or.inl m
    · exact Or.inr ⟨m, PySem.W.cellsFrom_some _ _ _ (Or.inl m)⟩
  · subst he
    refine ⟨L0.keeps x.toInCall.keep, codeAny_func ?_⟩
    have I := inv_start (CX := CX0) (P := P) (w := w) (mg := mg) (base := base) (E := E) S hr.hd e0 hl r x
    refine wpAny_mono (ht.nox.run [] s1 (start N vs) H _ I hq) ?_ (fun _ _ z => z)
    intro fl s' hs
    match fl, hs with
    | .ret u, ⟨v, σ', H', J, rv, q⟩ => exact ⟨v, H', J.os, J.bare, J.base, J.hok, rv, q⟩
    | .next, ⟨σ', H', J, q⟩ => exact ⟨V.non, H', J.os, J.bare, J.base, J.hok, (rfl : Value.none = Value.none), q⟩
    | .brk, ⟨_, _, _, q⟩ => exact q.elim
    | .cont, ⟨_, _, _, q⟩ => exact q.elim

/-- the script alone is tracked, and known, unless it is the module's own -/
def scriptH (K : PySem.W.Frag) (a : Addr) (o : Obj) (ns : List Int) : Hp := fun b => if b = a ∧ K.lookup a = none then some (.frz o (.lst (ns.map V.int))) else none
theorem scriptH_some {K : PySem.W.Frag} {a b : Addr} {o : Obj} {ns : List Int} {u : HO} (h : scriptH K a o ns b = some u) : b = a ∧ K.lookup a = none ∧ u = .frz o (.lst (ns.map V.int)) := by
  unfold scriptH at h
  split at h
  · rename_i hc
    exact ⟨hc.1, hc.2, (Option.some.inj h).symm⟩
  · cases h
theorem scriptH_hid {K : PySem.W.Frag} {a b : Addr} {oa o : Obj} {ns : List Int} {hp : Heap} (e : hp.get? b = some o) (h : b ≠ a ∨ K.lookup a ≠ none) : (hidT hp (scriptH K a oa ns)).get? b = some o := by
  refine hidT_get e ?_
  unfold scriptH
  exact if_neg fun q => h.elim (fun z => z q.1) fun z => z q.2
theorem law_top {mb : Str → Option Value} {k : Nat} {fa a : Addr} {fd : FuncData} {x : Str} {sp : Sp} {s₁ : Shared} {vs : List Value} {ns : List Int}
    (KX : K.In s₁.heap) (hns : s₁.heap.Ns mainGlobals mg) (hb : s₁.heap.Ns builtinsNs mb) (hbb : ∀ x : Str, x ≠ "__name__" → mb x = bootBuiltins x) (hlim : s₁.heap.NoLimit) (hg : s₁.gens = #[])
    (ha : s₁.heap.get? a = some { cls := .type "list", data := .seq vs.toArray }) (hi : IntsAre vs ns) (hl : ns.length ≤ sizeLine) (hr : Room k callerA)
    (F : ∀ base : Heap, K.In base → base.Ns mainGlobals mg → TopOk P w K mg base k fa fd [x] sp) (hbind : ∀ (s : Shared) (u : Value), BindsTo s fd ⟨[u], []⟩ [(x, u)])
    (hsp : ∀ H : Hp, SqL K H a (ns.map V.int) → sp [.ref a] H (fun v _ => v = .bl true) E0) :
    codeAny (model P w) callerA (.call (.ref fa) ⟨[.ref a], []⟩) (fun r s' => r = .ok (.ret (.bool true)) ∧ OldK s₁.heap s'.heap ∧ s'.os = s₁.os ∧ AllBare s'.gens) s₁ := by
  have rv := vals_ints hi
  let o : Obj := { cls := .type "list", data := .seq vs.toArray }
  let H : Hp := scriptH K a o ns
  have dne : ∀ {b : Addr} {m : Str → Option Value}, s₁.heap.Ns b m → b ≠ a := fun {b m} ⟨ob, es, ep, e, d, _⟩ q => by
    rw [q, ha] at e
    cases e
    cases d
  have ns' : ∀ {b : Addr} {m : Str → Option Value}, s₁.heap.Ns b m → (hidT s₁.heap H).Ns b m := fun {b m} hN => by
    have hne := dne hN
    obtain ⟨ob, es, ep, e, r⟩ := hN
    exact ⟨ob, es, ep, scriptH_hid e (.inl hne), r⟩
  have kin : K.In (hidT s₁.heap H) := fun b ob e => scriptH_hid (KX b ob e) (by
    by_cases q : b = a
    · refine .inr fun z => ?_
      rw [q, z] at e
      cases e
    · exact .inl q)
  have hS : SqL K H a (ns.map V.int) := by
    cases q : K.lookup a with
    | none => exact .inl (.inr ⟨o, if_pos ⟨rfl, q⟩⟩)
    | some oa =>
      have e := KX a oa q
      rw [ha] at e
      cases e
      exact .inr ⟨_, vs.toArray, _, q, rfl, rfl, rfl, by rw [List.size_toArray, hi.length]; exact hl, by simpa using rv⟩
  have hok : HOk P w H s₁.heap := fun b u e => by
    obtain ⟨rfl, _, rfl⟩ := scriptH_some e
    exact ⟨ha, by rw [List.length_map]; exact hl, vs, _, rv, ha⟩
  have e0 : Env0 P w K mg (hidT s₁.heap H) callerA [] s₁ H := by
    refine ⟨rfl, ⟨kin, ns' hns, ⟨mb, ns' hb, hbb⟩, ?_⟩, fun b ob e => of_hidT e, Nat.le_of_eq (hidT_size _ _), trivial, ?_, hok, .of_eq hg⟩
    · obtain ⟨mc, h1, h2⟩ := hlim
      exact ⟨mc, ns' h1, h2⟩
    · intro b hb'
      cases hb'
  refine codeAny_mono ((F _ kin (ns' hns)).run callerA [] s₁ H ⟨[.ref a], []⟩ [.ref a] [.ref a] (fun v _ => v = .bl true) E0 rfl hr e0 (hbind s₁ (.ref a)) (.cons rfl .nil) (hsp H hS)) ?_
  intro r s' h
  match r, h with
  | .ok (.ret u), ⟨v, H', os, bare, un, hok', r', q⟩ =>
    have q : v = .bl true := q
    subst q
    have r' : u = Value.bool true := r'
    subst r'
    refine ⟨rfl, OldK.of_keep fun b ob e => ?_, os, bare⟩
    cases q : H b with
    | none => exact un.keep b ob e q (fun z => by cases z) (fun z => by cases z)
    | some u =>
      obtain ⟨rfl, _, rfl⟩ := scriptH_some q
      have g := (hok' _ _ (un.frzs _ _ _ q)).1
      rw [ha] at e
      cases e
      exact g
/-- the goal behind k_head, from the law's promise -/
theorem walk_top {l : PySem.W.OpenLaw} {n k : Nat} {q : Program} {loose : List Str} {XP : (Str → Option Value) → Heap → Prop} {YP : World → Heap → Prop} {d : DefRec} {K : Params → PySem.W.Frag} {sp : World → Sp} {x : Str}
    (hn : l.most = some n) (hn2 : n ≤ sizeLine) (hdf : d.params.defaults = []) (hr : Room k callerA) (hY : ∀ (w : World) (h : Heap), YP w h → (K w.params).In h)
    (F : ∀ (w : World) (mg : Str → Option Value) (fa : Addr) (h : Heap), (K w.params).In h → h.Ns mainGlobals mg → mg d.name = some (.ref fa) →
      ∃ fd : FuncData, (∀ (s : Shared) (u : Value), BindsTo s fd ⟨[u], []⟩ [(x, u)]) ∧ ∀ base : Heap, (K w.params).In base → base.Ns mainGlobals mg → TopOk l.prog w (K w.params) mg base k fa fd [x] (sp w))
    (hsp : ∀ (w : World) (H : Hp) (a : Addr) (ns : List Int), ns.length ≤ n → SqL (K w.params) H a (ns.map V.int) → sp w [.ref a] H (fun v _ => v = .bl true) E0) :
    PySem.W.WalkO q loose XP YP l.row.toRowW d [] (fun f vs => PySem.call f vs) := by
  refine Att.attach_call hn hdf ?_
  intro w s₀ s₁ mg mb fa o pm cd doc a vs ns G Y ho hd hcd hmg hobj hints hlen hg
  obtain ⟨fd, hb, hF⟩ := F w mg fa _ (hY w _ Y) G.T.g hmg
  exact law_top (hY w _ Y) G.T.g G.T.b G.T.builtins G.T.nolimit hg hobj hints (Nat.le_trans hlen hn2) hr hF hb fun H hS => hsp w H a ns hlen hS
end

/-! ### comprehensions whose elements only make things -/
theorem Same.upd_new {H H' : Hp} {p : Addr} {o : HO} (s : Same H H') (h : H p = none) : Same H (upd H' p o) := fun b u e => by
  rw [upd_ne (ne_of_none e h)]
  exact s b u e
theorem lc_map {J : It} {n : Nat} {Y : Nat → Hp → V → Hp → Prop} {g : TG} {te : TE} {vs : List Nat} {σ : L2.St} {H1 : Hp} {D : Addr} {Qd : Hp → Prop} (vals : Nat → V) (hn : n ≤ 100000) (w : Walk J n (fun H => Same H1 H) Y) (hD : H1 D = none)
    (hs : ∀ i x H H', i < n → Same H1 H → Y i H x H' → ∀ Q' : VK, (∀ H4, Same H H4 → Q' (vals i) H4) → g x (wipe σ vs) H' fun σ2 H2 => wipe σ2 vs = wipe σ vs ∧ te σ2 H2 Q')
    (hd : ∀ H, Same H1 H → H D = some (.lst ((List.range n).map vals)) → Qd H) :
    ∃ W : Nat → Nat → Hp → Prop, (∃ m, W 0 m (upd H1 D (.lst []))) ∧ ∀ i m H, W i m H →
      (J.stop i H ∧ Qd H) ∨ (J.go i H ∧ ∃ Nx : Hp → Prop, (∀ H', Nx H' → ∃ m', m' < m ∧ W (i + 1) m' H') ∧ ∀ x H', J.yld i H x H' → g x (wipe σ vs) H' fun σ2 H2 => wipe σ2 vs = wipe σ vs ∧ tYes σ2 H2 fun b H3 =>
        if b = true then te σ2 H3 fun y H4 => ∃ acc, H4 D = some (.lst acc) ∧ acc.length < sizeLine ∧ Nx (upd H4 D (.lst (acc ++ [y]))) else Nx H3) := by
  refine lc_it (Qd := Qd) w (fun i H => Same H1 H ∧ H D = some (.lst ((List.range i).map vals))) ⟨Same.upd_new (Same.refl _) hD, upd_same⟩ (fun i H _ h => h.1) (fun i x H H' hi h y => ?_) (fun H h => hd H h.1 h.2)
  obtain ⟨h1, h2⟩ := h
  refine hs i x H H' hi h1 y _ fun H4 s4 => ⟨_, s4 _ _ h2, ?_, Same.upd_new (Same.trans h1 s4) hD, ?_⟩
  · rw [List.length_map, List.length_range]
    exact Nat.lt_of_le_of_lt (Nat.le_of_lt (Nat.lt_of_lt_of_le hi hn)) (by decide)
  · rw [upd_same, List.range_succ, List.map_append]
    rfl
theorem walk_zipT {K : PySem.W.Frag} {a b : Addr} {xs ys : List V} {n : Nat} (hn : n = min xs.length ys.length) : Walk (RZ.ItzT K a b) n (fun H => SqT K H a xs ∧ SqT K H b ys) (YPair (fun i => xs[i]?) (fun i => ys[i]?)) := by
  subst hn
  refine ⟨fun i _ hi q => ⟨xs, ys, xs[i]'(by omega), ys[i]'(by omega), q.1, q.2, List.getElem?_eq_getElem _, List.getElem?_eq_getElem _⟩, fun _ q => ⟨xs, ys, q.1, q.2, by omega⟩, fun i H v H' _ q y => ?_⟩
  obtain ⟨T, x, z, h1, h2, h3, h4, h5⟩ := y
  exact ⟨T, x, z, h1, h2, h3, h4 xs q.1, h5 ys q.2⟩
/-- a walk of two kinds of thing -/
theorem pi_or {X : Cx} {tg it : Expr} {w1 w2 : L2.TI} (h1 : PI X tg it w1) (h2 : PI X tg it w2) : PI X tg it (fun σ H R => w1 σ H R ∨ w2 σ H R) := by
  constructor
  intro pins s σ H R I h
  rcases h with h | h
  · exact h1.run pins s σ H R I h
  · exact h2.run pins s σ H R I h
end OW

set_option Elab.async false
set_option linter.all false
set_option maxRecDepth 100000
set_option maxHeartbeats 4000000
namespace K02
open PySem L2 TL
/-! ### the words, in plain Lean -/
def first (w : Str) : Str := ⟨#[w.cps.toList.headD 0]⟩
def isCount (w : Str) : Bool := Txt.isascii w && (Txt.isdigit w && (decide (V.str w = V.str "0") || !decide (V.str (first w) = V.str "0")))
def isPos (w : Str) : Bool := isCount w && !decide (V.str w = V.str "0")
def hasSigns (w : Str) : Bool := decide ((w.length : Int) ≤ 8) && (Txt.isascii w && Txt.isalnum w)
def notNames : List Str := ["one", "over", "where", "choose"]
def isVar (w : Str) : Bool := if hasSigns w = false ∨ w ∈ notNames then false else Txt.isalpha (first w) && decide (V.str w = V.str (Txt.lower w))
def moved (base sign number : Str) : Option (Str × Int) :=
  if isPos number = false then none
  else if base = "$" then (if sign = "-" then (intText? number).map fun n => (base, -n) else none)
  else if isVar base = false then none
  else (intText? number).map fun n => (base, if sign = "-" then -n else n)
def splitPlace (w : Str) : Option (Str × Int) :=
  if w = "$" ∨ isVar w = true then some (w, 0)
  else if isCount w = true then (intText? w).map fun n => ("0", n)
  else if (Txt.partition w "+").2.1.length ≠ 0 then moved (Txt.partition w "+").1 "+" (Txt.partition w "+").2.2
  else if (Txt.partition w "-").2.1.length ≠ 0 then moved (Txt.partition w "-").1 "-" (Txt.partition w "-").2.2
  else none
def sNames : List Str := ["i", "k", "p", "y9", "one1", "w"]
def sRanges : List Str := ["n", "m2", "a", "x", "t1", "zz9"]
def okAt (b : Str) (o : Int) : Bool := decide (-200 ≤ o) && (decide (o ≤ 200) && (if b = "0" then decide (0 ≤ o) else if b = "$" then decide (o ≤ 0) else true))
/-- the word of a place -/
def wd (b : Str) (o : Int) : Str := if b = "0" then toString o else if o = 0 then b else b ++ (if o > 0 then ("+" : Str) else "-") ++ (toString (if o < 0 then -o else o) : Str)
def factB (b : Str) (o : Int) : Bool := !okAt b o || (decide (splitPlace (wd b o) = some (b, o)) && (decide (¬ wd b o ∈ sRanges) && (decide (¬ (32 ∈ tl (wd b o))) && (decide ((wd b o).length ≤ 10) && decide (0 < (wd b o).length)))))
def offs : List Int := (List.range 401).map fun (k : Nat) => (k : Int) - 200
theorem fact1 : (offs.all fun o => factB "0" o) = true := by decide +kernel
theorem fact2 : (offs.all fun o => factB "$" o) = true := by decide +kernel
theorem fact3 : (offs.all fun o => factB "i" o) = true := by decide +kernel
theorem fact4 : (offs.all fun o => factB "k" o) = true := by decide +kernel
theorem fact5 : (offs.all fun o => factB "p" o) = true := by decide +kernel
theorem fact6 : (offs.all fun o => factB "y9" o) = true := by decide +kernel
theorem fact7 : (offs.all fun o => factB "one1" o) = true := by decide +kernel
theorem fact8 : (offs.all fun o => factB "w" o) = true := by decide +kernel
end K02

set_option Elab.async false
set_option linter.all false
set_option maxRecDepth 100000
set_option maxHeartbeats 4000000
namespace K02
open PySem L2 OW TL
def top (i : Nat) : Stmt := PySem.Challenge.pw_oneweight_k02_one_relation_many_writings.main.body.getD i (.Pass ⟨0, 0, 0, 0⟩)
def signs : List Str := ["<=", "<", "=", ">=", ">"]
def ends : List Str := ["0", "$"]
abbrev scheck_limit : Stmt := top 6
abbrev Ncheck_limit : List Str := ["what", "many"]
theorem sccheck_limit : FnScope Ncheck_limit ["what", "many"] (defScope scheck_limit) := ⟨rfl, rfl, rfl, by decide +kernel, rfl, by decide +kernel, by decide +kernel⟩
abbrev sis_count : Stmt := top 10
abbrev Nis_count : List Str := ["word"]
theorem scis_count : FnScope Nis_count ["word"] (defScope sis_count) := ⟨rfl, rfl, rfl, by decide +kernel, rfl, by decide +kernel, by decide +kernel⟩
abbrev sis_positive : Stmt := top 11
abbrev Nis_positive : List Str := ["word"]
theorem scis_positive : FnScope Nis_positive ["word"] (defScope sis_positive) := ⟨rfl, rfl, rfl, by decide +kernel, rfl, by decide +kernel, by decide +kernel⟩
abbrev shas_name_signs : Stmt := top 12
abbrev Nhas_name_signs : List Str := ["word"]
theorem schas_name_signs : FnScope Nhas_name_signs ["word"] (defScope shas_name_signs) := ⟨rfl, rfl, rfl, by decide +kernel, rfl, by decide +kernel, by decide +kernel⟩
abbrev sis_variable : Stmt := top 13
abbrev Nis_variable : List Str := ["word"]
theorem scis_variable : FnScope Nis_variable ["word"] (defScope sis_variable) := ⟨rfl, rfl, rfl, by decide +kernel, rfl, by decide +kernel, by decide +kernel⟩
abbrev smoved_place : Stmt := top 17
abbrev Nmoved_place : List Str := ["base", "sign", "number"]
theorem scmoved_place : FnScope Nmoved_place ["base", "sign", "number"] (defScope smoved_place) := ⟨rfl, rfl, rfl, by decide +kernel, rfl, by decide +kernel, by decide +kernel⟩
abbrev ssplit_place : Stmt := top 18
abbrev Nsplit_place : List Str := ["word", "sign", "base", "found", "number"]
theorem scsplit_place : FnScope Nsplit_place ["word"] (defScope ssplit_place) := ⟨rfl, rfl, rfl, by decide +kernel, rfl, by decide +kernel, by decide +kernel⟩
abbrev splace_sides : Stmt := top 19
abbrev Nplace_sides : List Str := ["left", "right", "ranges", "one", "other"]
theorem scplace_sides : FnScope Nplace_sides ["left", "right", "ranges"] (defScope splace_sides) := ⟨rfl, rfl, rfl, by decide +kernel, rfl, by decide +kernel, by decide +kernel⟩
abbrev scondition_sides : Stmt := top 20
abbrev Ncondition_sides : List Str := ["words", "ranges"]
theorem sccondition_sides : FnScope Ncondition_sides ["words", "ranges"] (defScope scondition_sides) := ⟨rfl, rfl, rfl, by decide +kernel, rfl, by decide +kernel, by decide +kernel⟩
abbrev sbound_of : Stmt := top 21
abbrev Nbound_of : List Str := ["sides", "sign", "ahead", "one", "other"]
theorem scbound_of : FnScope Nbound_of ["sides", "sign"] (defScope sbound_of) := ⟨rfl, rfl, rfl, by decide +kernel, rfl, by decide +kernel, by decide +kernel⟩
abbrev sbound_cost : Stmt := top 22
abbrev Nbound_cost : List Str := ["bound", "c"]
theorem scbound_cost : FnScope Nbound_cost ["bound"] (defScope sbound_cost) := ⟨rfl, rfl, rfl, by decide +kernel, rfl, by decide +kernel, by decide +kernel⟩
abbrev scompares : Stmt := top 23
abbrev Ncompares : List Str := ["one", "sign", "other"]
theorem sccompares : FnScope Ncompares ["one", "sign", "other"] (defScope scompares) := ⟨rfl, rfl, rfl, by decide +kernel, rfl, by decide +kernel, by decide +kernel⟩
abbrev svalue_of : Stmt := top 25
abbrev Nvalue_of : List Str := ["pair", "values", "last", "base", "offset"]
theorem scvalue_of : FnScope Nvalue_of ["pair", "values", "last"] (defScope svalue_of) := ⟨rfl, rfl, rfl, by decide +kernel, rfl, by decide +kernel, by decide +kernel⟩
abbrev smade_sides : Stmt := top 26
abbrev Nmade_sides : List Str := ["text", "ranges", "sides"]
theorem scmade_sides : FnScope Nmade_sides ["text", "ranges"] (defScope smade_sides) := ⟨rfl, rfl, rfl, by decide +kernel, rfl, by decide +kernel, by decide +kernel⟩
abbrev sread_sides : Stmt := top 27
abbrev Nread_sides : List Str := ["text", "ranges", "sides", "_", "offset"]
theorem scread_sides : FnScope Nread_sides ["text", "ranges"] (defScope sread_sides) := ⟨rfl, rfl, rfl, by decide +kernel, rfl, by decide +kernel, by decide +kernel⟩
abbrev scondition_cost : Stmt := top 28
abbrev Ncondition_cost : List Str := ["text", "ranges", "sides"]
theorem sccondition_cost : FnScope Ncondition_cost ["text", "ranges"] (defScope scondition_cost) := ⟨rfl, rfl, rfl, by decide +kernel, rfl, by decide +kernel, by decide +kernel⟩
abbrev scondition_holds : Stmt := top 29
abbrev Ncondition_holds : List Str := ["text", "values", "last", "ranges", "one", "other", "left", "right"]
theorem sccondition_holds : FnScope Ncondition_holds ["text", "values", "last", "ranges"] (defScope scondition_holds) := ⟨rfl, rfl, rfl, by decide +kernel, rfl, by decide +kernel, by decide +kernel⟩
abbrev s_law_bag : Stmt := top 31
abbrev N_law_bag : List Str := ["script", "mixed", "cell"]
theorem sc_law_bag : FnScope N_law_bag ["script"] (defScope s_law_bag) := ⟨rfl, rfl, rfl, by decide +kernel, rfl, by decide +kernel, by decide +kernel⟩
abbrev s_law_draw : Stmt := top 32
abbrev N_law_draw : List Str := ["bag", "many", "mixed", "cell", "digit"]
theorem sc_law_draw : FnScope N_law_draw ["bag", "many"] (defScope s_law_draw) := ⟨rfl, rfl, rfl, by decide +kernel, rfl, by decide +kernel, by decide +kernel⟩
abbrev s_law_of : Stmt := top 33
abbrev N_law_of : List Str := ["bag", "menu"]
theorem sc_law_of : FnScope N_law_of ["bag", "menu"] (defScope s_law_of) := ⟨rfl, rfl, rfl, by decide +kernel, rfl, by decide +kernel, by decide +kernel⟩
abbrev s_law_pick : Stmt := top 34
abbrev N_law_pick : List Str := ["bag", "menu", "many", "k", "left", "made"]
theorem sc_law_pick : FnScope N_law_pick ["bag", "menu", "many"] (defScope s_law_pick) := ⟨rfl, rfl, rfl, by decide +kernel, rfl, by decide +kernel, by decide +kernel⟩
abbrev s_law_great : Stmt := top 35
abbrev N_law_great : List Str := ["bag", "parts", "made", "k"]
theorem sc_law_great : FnScope N_law_great ["bag", "parts"] (defScope s_law_great) := ⟨rfl, rfl, rfl, by decide +kernel, rfl, by decide +kernel, by decide +kernel⟩
abbrev s_law_like : Stmt := top 36
abbrev N_law_like : List Str := ["told", "due", "key", "k"]
theorem sc_law_like : FnScope N_law_like ["told", "due"] (defScope s_law_like) := ⟨rfl, rfl, rfl, by decide +kernel, rfl, by decide +kernel, by decide +kernel⟩
abbrev s_law_word : Stmt := top 37
abbrev N_law_word : List Str := ["base", "offset"]
theorem sc_law_word : FnScope N_law_word ["base", "offset"] (defScope s_law_word) := ⟨rfl, rfl, rfl, by decide +kernel, rfl, by decide +kernel, by decide +kernel⟩
abbrev s_law_ways : Stmt := top 38
abbrev N_law_ways : List Str := ["bag", "u", "v", "c", "made", "splits", "left", "one", "same", "less"]
theorem sc_law_ways : FnScope N_law_ways ["bag", "u", "v", "c"] (defScope s_law_ways) := ⟨rfl, rfl, rfl, by decide +kernel, rfl, by decide +kernel, by decide +kernel⟩
abbrev s_law_size_ways : Stmt := top 39
abbrev N_law_size_ways : List Str := ["name", "c", "made"]
theorem sc_law_size_ways : FnScope N_law_size_ways ["name", "c"] (defScope s_law_size_ways) := ⟨rfl, rfl, rfl, by decide +kernel, rfl, by decide +kernel, by decide +kernel⟩
abbrev s_law_size_contrary : Stmt := top 40
abbrev N_law_size_contrary : List Str := ["name", "c", "made"]
theorem sc_law_size_contrary : FnScope N_law_size_contrary ["name", "c"] (defScope s_law_size_contrary) := ⟨rfl, rfl, rfl, by decide +kernel, rfl, by decide +kernel, by decide +kernel⟩
abbrev s_law_alike : Stmt := top 41
abbrev N_law_alike : List Str := ["texts", "ranges", "tries", "cost", "due", "text", "k", "values", "last"]
theorem sc_law_alike : FnScope N_law_alike ["texts", "ranges", "tries", "cost", "due"] (defScope s_law_alike) := ⟨rfl, rfl, rfl, by decide +kernel, rfl, by decide +kernel, by decide +kernel⟩
abbrev s_law_tries : Stmt := top 42
abbrev N_law_tries : List Str := ["bag", "u", "v", "c", "names", "tries", "gap", "name", "base", "last", "values"]
theorem sc_law_tries : FnScope N_law_tries ["bag", "u", "v", "c", "names"] (defScope s_law_tries) := ⟨rfl, rfl, rfl, by decide +kernel, rfl, by decide +kernel, by decide +kernel⟩
abbrev s_law_gap : Stmt := top 43
abbrev N_law_gap : List Str := ["u", "v", "values", "last", "one", "other"]
theorem sc_law_gap : FnScope N_law_gap ["u", "v", "values", "last"] (defScope s_law_gap) := ⟨rfl, rfl, rfl, by decide +kernel, rfl, by decide +kernel, by decide +kernel⟩
abbrev s_law_pair : Stmt := top 44
abbrev N_law_pair : List Str := ["bag", "u", "v", "c", "names", "ranges", "tries", "gaps", "cost", "left", "ways", "contrary", "equal", "more", "one", "other", "values", "last", "gap"]
theorem sc_law_pair : FnScope N_law_pair ["bag", "u", "v", "c", "names", "ranges"] (defScope s_law_pair) := ⟨rfl, rfl, rfl, by decide +kernel, rfl, by decide +kernel, by decide +kernel⟩
abbrev s_law_size_kept : Stmt := top 45
abbrev N_law_size_kept : List Str := ["bag", "name", "ranges", "c", "tries", "last", "due", "cost", "equal", "values", "held"]
theorem sc_law_size_kept : FnScope N_law_size_kept ["bag", "name", "ranges"] (defScope s_law_size_kept) := ⟨rfl, rfl, rfl, by decide +kernel, rfl, by decide +kernel, by decide +kernel⟩
abbrev slaw : Stmt := top 46
abbrev Nlaw : List Str := ["script", "bag", "ranges", "names", "k", "c", "u", "v", "one"]
theorem sclaw : FnScope Nlaw ["script"] (defScope slaw) := ⟨rfl, rfl, rfl, by decide +kernel, rfl, by decide +kernel, by decide +kernel⟩
/-- what the top has left: where the defs stand, the built-in names that are still free -/
structure Txt (K : PySem.W.Frag) (w : World) (mg : Str → Option Value) where
  acheck_limit : Addr
  dcheck_limit : FuncData
  fcheck_limit : Fun K "check_limit" "check_limit" scheck_limit acheck_limit dcheck_limit
  gcheck_limit : mg "check_limit" = some (.ref acheck_limit)
  bcheck_limit : Binds K dcheck_limit ["what", "many"] []
  ais_count : Addr
  dis_count : FuncData
  fis_count : Fun K "is_count" "is_count" sis_count ais_count dis_count
  gis_count : mg "is_count" = some (.ref ais_count)
  bis_count : Binds K dis_count ["word"] []
  ais_positive : Addr
  dis_positive : FuncData
  fis_positive : Fun K "is_positive" "is_positive" sis_positive ais_positive dis_positive
  gis_positive : mg "is_positive" = some (.ref ais_positive)
  bis_positive : Binds K dis_positive ["word"] []
  ahas_name_signs : Addr
  dhas_name_signs : FuncData
  fhas_name_signs : Fun K "has_name_signs" "has_name_signs" shas_name_signs ahas_name_signs dhas_name_signs
  ghas_name_signs : mg "has_name_signs" = some (.ref ahas_name_signs)
  bhas_name_signs : Binds K dhas_name_signs ["word"] []
  ais_variable : Addr
  dis_variable : FuncData
  fis_variable : Fun K "is_variable" "is_variable" sis_variable ais_variable dis_variable
  gis_variable : mg "is_variable" = some (.ref ais_variable)
  bis_variable : Binds K dis_variable ["word"] []
  amoved_place : Addr
  dmoved_place : FuncData
  fmoved_place : Fun K "moved_place" "moved_place" smoved_place amoved_place dmoved_place
  gmoved_place : mg "moved_place" = some (.ref amoved_place)
  bmoved_place : Binds K dmoved_place ["base", "sign", "number"] []
  asplit_place : Addr
  dsplit_place : FuncData
  fsplit_place : Fun K "split_place" "split_place" ssplit_place asplit_place dsplit_place
  gsplit_place : mg "split_place" = some (.ref asplit_place)
  bsplit_place : Binds K dsplit_place ["word"] []
  aplace_sides : Addr
  dplace_sides : FuncData
  fplace_sides : Fun K "place_sides" "place_sides" splace_sides aplace_sides dplace_sides
  gplace_sides : mg "place_sides" = some (.ref aplace_sides)
  bplace_sides : Binds K dplace_sides ["left", "right", "ranges"] []
  acondition_sides : Addr
  dcondition_sides : FuncData
  fcondition_sides : Fun K "condition_sides" "condition_sides" scondition_sides acondition_sides dcondition_sides
  gcondition_sides : mg "condition_sides" = some (.ref acondition_sides)
  bcondition_sides : Binds K dcondition_sides ["words", "ranges"] []
  abound_of : Addr
  dbound_of : FuncData
  fbound_of : Fun K "bound_of" "bound_of" sbound_of abound_of dbound_of
  gbound_of : mg "bound_of" = some (.ref abound_of)
  bbound_of : Binds K dbound_of ["sides", "sign"] []
  abound_cost : Addr
  dbound_cost : FuncData
  fbound_cost : Fun K "bound_cost" "bound_cost" sbound_cost abound_cost dbound_cost
  gbound_cost : mg "bound_cost" = some (.ref abound_cost)
  bbound_cost : Binds K dbound_cost ["bound"] []
  acompares : Addr
  dcompares : FuncData
  fcompares : Fun K "compares" "compares" scompares acompares dcompares
  gcompares : mg "compares" = some (.ref acompares)
  bcompares : Binds K dcompares ["one", "sign", "other"] []
  avalue_of : Addr
  dvalue_of : FuncData
  fvalue_of : Fun K "value_of" "value_of" svalue_of avalue_of dvalue_of
  gvalue_of : mg "value_of" = some (.ref avalue_of)
  bvalue_of : Binds K dvalue_of ["pair", "values", "last"] []
  amade_sides : Addr
  dmade_sides : FuncData
  fmade_sides : Fun K "made_sides" "made_sides" smade_sides amade_sides dmade_sides
  gmade_sides : mg "made_sides" = some (.ref amade_sides)
  bmade_sides : Binds K dmade_sides ["text", "ranges"] []
  aread_sides : Addr
  dread_sides : FuncData
  fread_sides : Fun K "read_sides" "read_sides" sread_sides aread_sides dread_sides
  gread_sides : mg "read_sides" = some (.ref aread_sides)
  bread_sides : Binds K dread_sides ["text", "ranges"] []
  acondition_cost : Addr
  dcondition_cost : FuncData
  fcondition_cost : Fun K "condition_cost" "condition_cost" scondition_cost acondition_cost dcondition_cost
  gcondition_cost : mg "condition_cost" = some (.ref acondition_cost)
  bcondition_cost : Binds K dcondition_cost ["text", "ranges"] []
  acondition_holds : Addr
  dcondition_holds : FuncData
  fcondition_holds : Fun K "condition_holds" "condition_holds" scondition_holds acondition_holds dcondition_holds
  gcondition_holds : mg "condition_holds" = some (.ref acondition_holds)
  bcondition_holds : Binds K dcondition_holds ["text", "values", "last", "ranges"] []
  a_law_bag : Addr
  d_law_bag : FuncData
  f_law_bag : Fun K "_law_bag" "_law_bag" s_law_bag a_law_bag d_law_bag
  g_law_bag : mg "_law_bag" = some (.ref a_law_bag)
  b_law_bag : Binds K d_law_bag ["script"] []
  a_law_draw : Addr
  d_law_draw : FuncData
  f_law_draw : Fun K "_law_draw" "_law_draw" s_law_draw a_law_draw d_law_draw
  g_law_draw : mg "_law_draw" = some (.ref a_law_draw)
  b_law_draw : Binds K d_law_draw ["bag", "many"] []
  a_law_of : Addr
  d_law_of : FuncData
  f_law_of : Fun K "_law_of" "_law_of" s_law_of a_law_of d_law_of
  g_law_of : mg "_law_of" = some (.ref a_law_of)
  b_law_of : Binds K d_law_of ["bag", "menu"] []
  a_law_pick : Addr
  d_law_pick : FuncData
  f_law_pick : Fun K "_law_pick" "_law_pick" s_law_pick a_law_pick d_law_pick
  g_law_pick : mg "_law_pick" = some (.ref a_law_pick)
  b_law_pick : Binds K d_law_pick ["bag", "menu", "many"] []
  a_law_great : Addr
  d_law_great : FuncData
  f_law_great : Fun K "_law_great" "_law_great" s_law_great a_law_great d_law_great
  g_law_great : mg "_law_great" = some (.ref a_law_great)
  b_law_great : Binds K d_law_great ["bag", "parts"] []
  a_law_like : Addr
  d_law_like : FuncData
  f_law_like : Fun K "_law_like" "_law_like" s_law_like a_law_like d_law_like
  g_law_like : mg "_law_like" = some (.ref a_law_like)
  b_law_like : Binds K d_law_like ["told", "due"] []
  a_law_word : Addr
  d_law_word : FuncData
  f_law_word : Fun K "_law_word" "_law_word" s_law_word a_law_word d_law_word
  g_law_word : mg "_law_word" = some (.ref a_law_word)
  b_law_word : Binds K d_law_word ["base", "offset"] []
  a_law_ways : Addr
  d_law_ways : FuncData
  f_law_ways : Fun K "_law_ways" "_law_ways" s_law_ways a_law_ways d_law_ways
  g_law_ways : mg "_law_ways" = some (.ref a_law_ways)
  b_law_ways : Binds K d_law_ways ["bag", "u", "v", "c"] []
  a_law_size_ways : Addr
  d_law_size_ways : FuncData
  f_law_size_ways : Fun K "_law_size_ways" "_law_size_ways" s_law_size_ways a_law_size_ways d_law_size_ways
  g_law_size_ways : mg "_law_size_ways" = some (.ref a_law_size_ways)
  b_law_size_ways : Binds K d_law_size_ways ["name", "c"] []
  a_law_size_contrary : Addr
  d_law_size_contrary : FuncData
  f_law_size_contrary : Fun K "_law_size_contrary" "_law_size_contrary" s_law_size_contrary a_law_size_contrary d_law_size_contrary
  g_law_size_contrary : mg "_law_size_contrary" = some (.ref a_law_size_contrary)
  b_law_size_contrary : Binds K d_law_size_contrary ["name", "c"] []
  a_law_alike : Addr
  d_law_alike : FuncData
  f_law_alike : Fun K "_law_alike" "_law_alike" s_law_alike a_law_alike d_law_alike
  g_law_alike : mg "_law_alike" = some (.ref a_law_alike)
  b_law_alike : Binds K d_law_alike ["texts", "ranges", "tries", "cost", "due"] []
  a_law_tries : Addr
  d_law_tries : FuncData
  f_law_tries : Fun K "_law_tries" "_law_tries" s_law_tries a_law_tries d_law_tries
  g_law_tries : mg "_law_tries" = some (.ref a_law_tries)
  b_law_tries : Binds K d_law_tries ["bag", "u", "v", "c", "names"] []
  a_law_gap : Addr
  d_law_gap : FuncData
  f_law_gap : Fun K "_law_gap" "_law_gap" s_law_gap a_law_gap d_law_gap
  g_law_gap : mg "_law_gap" = some (.ref a_law_gap)
  b_law_gap : Binds K d_law_gap ["u", "v", "values", "last"] []
  a_law_pair : Addr
  d_law_pair : FuncData
  f_law_pair : Fun K "_law_pair" "_law_pair" s_law_pair a_law_pair d_law_pair
  g_law_pair : mg "_law_pair" = some (.ref a_law_pair)
  b_law_pair : Binds K d_law_pair ["bag", "u", "v", "c", "names", "ranges"] []
  a_law_size_kept : Addr
  d_law_size_kept : FuncData
  f_law_size_kept : Fun K "_law_size_kept" "_law_size_kept" s_law_size_kept a_law_size_kept d_law_size_kept
  g_law_size_kept : mg "_law_size_kept" = some (.ref a_law_size_kept)
  b_law_size_kept : Binds K d_law_size_kept ["bag", "name", "ranges"] []
  n_len : mg "len" = none
  n_int : mg "int" = none
  n_str : mg "str" = none
  n_list : mg "list" = none
  n_dict : mg "dict" = none
  n_bool : mg "bool" = none
  n_range : mg "range" = none
  n_abs : mg "abs" = none
  n_min : mg "min" = none
  n_max : mg "max" = none
  n_isinstance : mg "isinstance" = none
  tMOST_OF_NAME : Tok
  gMOST_OF_NAME : mg "MOST_OF_NAME" = some (.int 8 tMOST_OF_NAME)
  aNOT_NAMES : Addr
  gNOT_NAMES : mg "NOT_NAMES" = some (.ref aNOT_NAMES)
  qNOT_NAMES : ∀ H : Hp, SqT K H aNOT_NAMES (notNames.map V.str)
  aSIGNS : Addr
  gSIGNS : mg "SIGNS" = some (.ref aSIGNS)
  qSIGNS : ∀ H : Hp, SqT K H aSIGNS (signs.map V.str)
  aENDS : Addr
  gENDS : mg "ENDS" = some (.ref aENDS)
  qENDS : ∀ H : Hp, SqT K H aENDS (ends.map V.str)
  aLIMITS : Addr
  gLIMITS : mg "LIMITS" = some (.ref aLIMITS)
  qLIMITS : KDct K w aLIMITS "numbers" (.int 200)
theorem str_dec (a b : Str) : decide (V.str a = V.str b) = decide (a = b) := by
  by_cases h : a = b
  · rw [h, decide_eq_true rfl, decide_eq_true rfl]
  · rw [decide_eq_false h, decide_eq_false (fun e => h (V.str.inj e))]
theorem inV_strs (x : Str) (l : List Str) : inV (.str x) (l.map V.str) = decide (x ∈ l) := by
  induction l with
  | nil => rfl
  | cons y l ih =>
    have h1 : inV (.str x) ((y :: l).map V.str) = (eqV (V.str y) (.str x) || inV (.str x) (l.map V.str)) := rfl
    have h2 : eqV (V.str y) (.str x) = decide (x = y) := by
      show decide (y = x) = decide (x = y)
      by_cases e : x = y
      · rw [e]
      · rw [decide_eq_false e, decide_eq_false (fun z => e z.symm)]
    rw [h1, ih, h2]
    by_cases e : x = y
    · subst e
      rw [decide_eq_true rfl, decide_eq_true (List.mem_cons_self (a := x) (l := l))]
      rfl
    · rw [decide_eq_false e, Bool.false_or]
      by_cases e2 : x ∈ l
      · rw [decide_eq_true e2, decide_eq_true (List.mem_cons_of_mem _ e2)]
      · rw [decide_eq_false e2, decide_eq_false (fun z => (List.mem_cons.mp z).elim e e2)]
theorem flat_strs (l : List Str) : (l.map V.str).all flatV = true := by
  rw [List.all_map, List.all_eq_true]
  exact fun x _ => rfl
theorem first_at {w : Str} (h : 0 < w.length) : w.cps.toList[0]? = some (w.cps.toList.headD 0) := by
  have h' : 0 < w.cps.toList.length := by
    rw [← len_tl]
    exact h
  cases e : w.cps.toList with
  | nil =>
    rw [e] at h'
    cases h'
  | cons c r => rfl
def spCount : Sp := fun vs H Q _ => ∃ w : Str, vs = [.str w] ∧ w.length ≤ 1000 ∧ Q (.bl (isCount w)) H
def spPos : Sp := fun vs H Q _ => ∃ w : Str, vs = [.str w] ∧ w.length ≤ 1000 ∧ Q (.bl (isPos w)) H
def spHas : Sp := fun vs H Q _ => ∃ w : Str, vs = [.str w] ∧ w.length ≤ 1000 ∧ Q (.bl (hasSigns w)) H
def spVar : Sp := fun vs H Q _ => ∃ w : Str, vs = [.str w] ∧ w.length ≤ 1000 ∧ Q (.bl (isVar w)) H
/-- a place: a new pair -/
def Pl (K : PySem.W.Frag) (H : Hp) (v : V) (s : Str × Int) : Prop := ∃ a, v = .ref a ∧ SqT K H a [.str s.1, .int s.2]
def spMoved (K : PySem.W.Frag) : Sp := fun vs H Q _ => ∃ (b sg n : Str) (r : Str × Int), vs = [.str b, .str sg, .str n] ∧ b.length ≤ 1000 ∧ n.length ≤ 640 ∧ moved b sg n = some r ∧ ∀ H' v, Same H H' → Pl K H' v r → Q v H'
def spSplit (K : PySem.W.Frag) : Sp := fun vs H Q _ => ∃ (w : Str) (r : Str × Int), vs = [.str w] ∧ w.length ≤ 500 ∧ splitPlace w = some r ∧ ∀ H' v, Same H H' → Pl K H' v r → Q v H'
theorem digit_len {w : Str} (h : Txt.isdigit w = true) : 0 < w.length := by
  unfold Txt.isdigit at h
  have := (Bool.and_eq_true_iff.mp h).1
  exact of_decide_eq_true this
theorem alnum_len {w : Str} (h : Txt.isalnum w = true) : 0 < w.length := by
  unfold Txt.isalnum at h
  have := (Bool.and_eq_true_iff.mp h).1
  exact of_decide_eq_true this
end K02

set_option Elab.async false
set_option linter.all false
set_option maxRecDepth 100000
set_option maxHeartbeats 4000000
namespace K02
open PySem L2 OW TL
section
variable {P : Program} {w : World} {K : PySem.W.Frag} {mg : Str → Option Value} {base : Heap}
theorem okis_count (T : Txt K w mg) : FnOk P w K mg base CX0 1 T.ais_count T.dis_count ["word"] spCount := by
  refine T.fis_count.ok scis_count (fun vs H Q E h => ?_) (fun cdv A outer s H vs Q E hr h => ?_)
  · obtain ⟨a, rfl, _⟩ := h
    rfl
  · obtain ⟨x, rfl, hx, k⟩ := h
    refine ⟨_, (pss_one (ps_ret (pe_and (pe_m0 PySem.F.slot_str_isascii PySem.F.type_str_isascii mt_isascii (pv 0)) (pe_and (pe_m0 PySem.F.slot_str_isdigit PySem.F.type_str_isdigit mt_isdigit (pv 0)) (pe_one (pe_or (pe_cmpR op_eq (pv 0) pe_str (nomark _)) (pe_one (pe_cmpR op_ne (pe_ix ix_str (pv 0) pe_int (fun _ _ => rfl)) pe_str (nomark _))))))))), ?_⟩
    unfold isCount at k
    refine ⟨_, rfl, ⟨_, rfl⟩, _, rfl, rfl, trivial, _, rfl, ?_⟩
    cases e1 : Txt.isascii x
    · rw [e1] at k
      exact k
    rw [e1] at k
    refine ⟨_, rfl, ⟨_, rfl⟩, _, rfl, rfl, trivial, _, rfl, ?_⟩
    cases e2 : Txt.isdigit x
    · rw [e2] at k
      exact k
    rw [e2] at k
    refine ⟨_, rfl, rfl, _, rfl, ?_⟩
    cases e3 : decide (V.str x = V.str "0")
    · rw [e3] at k
      exact ⟨_, rfl, x, 0, _, rfl, rfl, Nat.le_of_lt (small1000 hx), atI_nat (first_at (digit_len e2)), rfl, k⟩
    · rw [e3] at k
      exact k
theorem okis_positive (T : Txt K w mg) : FnOk P w K mg base CX0 2 T.ais_positive T.dis_positive ["word"] spPos := by
  refine T.fis_positive.ok scis_positive (fun vs H Q E h => ?_) (fun cdv A outer s H vs Q E hr h => ?_)
  · obtain ⟨a, rfl, _⟩ := h
    rfl
  · obtain ⟨x, rfl, hx, k⟩ := h
    refine ⟨_, (pss_one (ps_ret (pe_and (pe_call (okis_count T) (hr.mono (by decide)) rfl T.gis_count T.fis_count.kp T.bis_count .nil pass0 (pa_cons (pv 0) pa_nil)) (pe_one (pe_cmpR op_ne (pv 0) pe_str (nomark _)))))), ?_⟩
    unfold isPos at k
    refine ⟨_, rfl, _, rfl, hx, _, rfl, ?_⟩
    cases e1 : isCount x
    · rw [e1] at k
      exact k
    rw [e1] at k
    exact ⟨_, rfl, rfl, k⟩
theorem okhas_name_signs (T : Txt K w mg) : FnOk P w K mg base CX0 1 T.ahas_name_signs T.dhas_name_signs ["word"] spHas := by
  refine T.fhas_name_signs.ok schas_name_signs (fun vs H Q E h => ?_) (fun cdv A outer s H vs Q E hr h => ?_)
  · obtain ⟨a, rfl, _⟩ := h
    rfl
  · obtain ⟨x, rfl, hx, k⟩ := h
    refine ⟨_, (pss_one (ps_ret (pe_and (pe_cmpR op_le (pe_callB call_len_str (by rfl) T.n_len (by decide +kernel) (pa_cons (pv 0) pa_nil)) (pe_glob (v := .int 8) rfl T.gMOST_OF_NAME ⟨_, rfl⟩) (nomark _)) (pe_and (pe_m0 PySem.F.slot_str_isascii PySem.F.type_str_isascii mt_isascii (pv 0)) (pe_one (pe_m0 PySem.F.slot_str_isalnum PySem.F.type_str_isalnum mt_isalnum (pv 0))))))), ?_⟩
    unfold hasSigns at k
    refine ⟨_, rfl, _, rfl, Nat.le_of_lt (small1000 hx), _, _, rfl, rfl, _, rfl, ?_⟩
    cases e1 : decide ((x.length : Int) ≤ 8)
    · rw [e1] at k
      exact k
    rw [e1] at k
    refine ⟨_, rfl, ⟨_, rfl⟩, _, rfl, rfl, trivial, _, rfl, ?_⟩
    cases e2 : Txt.isascii x
    · rw [e2] at k
      exact k
    rw [e2] at k
    exact ⟨_, rfl, ⟨_, rfl⟩, _, rfl, rfl, trivial, k⟩
theorem okis_variable (T : Txt K w mg) : FnOk P w K mg base CX0 2 T.ais_variable T.dis_variable ["word"] spVar := by
  refine T.fis_variable.ok scis_variable (fun vs H Q E h => ?_) (fun cdv A outer s H vs Q E hr h => ?_)
  · obtain ⟨a, rfl, _⟩ := h
    rfl
  · obtain ⟨x, rfl, hx, k⟩ := h
    refine ⟨_, (pss_cons (ps_if (PW.pt (pw_or (pt_not (pt_val (pe_call (okhas_name_signs T) (hr.mono (by decide)) rfl T.ghas_name_signs T.fhas_name_signs.kp T.bhas_name_signs .nil pass0 (pa_cons (pv 0) pa_nil)))) (pw_or1 (pt_cmpR op_in_seq (pv 0) (pe_glob (v := .ref T.aNOT_NAMES) rfl T.gNOT_NAMES rfl) (by rfl)))))
      (pss_one (ps_ret pe_bl))
      pss_nil)
    (pss_one (ps_ret (pe_and (pe_m0 PySem.F.slot_str_isalpha PySem.F.type_str_isalpha mt_isalpha (pe_ix ix_str (pv 0) pe_int (fun _ _ => rfl))) (pe_one (pe_cmpR op_eq (pv 0) (pe_lower (pv 0)) (nomark _))))))), ?_⟩
    refine ⟨_, rfl, _, rfl, hx, _, rfl, ?_⟩
    cases e1 : hasSigns x
    · rw [show isVar x = false from if_pos (.inl e1)] at k
      exact k
    refine ⟨_, rfl, _, _, rfl, .inr (T.qNOT_NAMES H), rfl, flat_strs _, _, rfl, ?_⟩
    rw [inV_strs]
    refine ite2 (fun e2 => ?_) (fun e2 => ?_)
    · rw [show isVar x = false from if_pos (.inr (of_decide_eq_true e2))] at k
      exact k
    · rw [show isVar x = _ from if_neg (fun z => z.elim (fun z => by rw [e1] at z; cases z) (fun z => e2 (decide_eq_true z)))] at k
      have hl : 0 < x.length := by
        unfold hasSigns at e1
        exact alnum_len (Bool.and_eq_true_iff.mp (Bool.and_eq_true_iff.mp e1).2).2
      refine ⟨_, rfl, x, 0, _, rfl, rfl, Nat.le_of_lt (small1000 hx), atI_nat (first_at hl), ⟨_, rfl⟩, _, rfl, rfl, trivial, _, rfl, ?_⟩
      refine ite2 (fun e3 => ?_) (fun e3 => ?_)
      · rw [show Txt.isalpha (first x) = true from e3] at k
        exact ⟨_, rfl, _, rfl, ⟨_, rfl⟩, _, rfl, rfl, Nat.le_trans hx (by decide), rfl, k⟩
      · rw [show Txt.isalpha (first x) = false from Bool.eq_false_iff.mpr e3] at k
        exact k
theorem pl_new {K : PySem.W.Frag} {H : Hp} {t : Addr} {b : Str} {o : Int} (ht : H t = none) : Same H (upd H t (.tup [.str b, .int o])) ∧ Pl K (upd H t (.tup [.str b, .int o])) (.ref t) (b, o) :=
  ⟨OW.Same.upd_new (Same.refl _) ht, t, rfl, SqT.of upd_same⟩
theorem okmoved_place (T : Txt K w mg) : FnOk P w K mg base CX0 3 T.amoved_place T.dmoved_place ["base", "sign", "number"] (spMoved K) := by
  refine T.fmoved_place.ok scmoved_place (fun vs H Q E h => ?_) (fun cdv A outer s H vs Q E hr h => ?_)
  · obtain ⟨a, b, c, r, rfl, _⟩ := h
    rfl
  · obtain ⟨b, sg, n, r, rfl, hb, hn, hm, k⟩ := h
    refine ⟨_, (pss_cons (ps_if (pt_not (pt_val (pe_call (okis_positive T) (hr.mono (by decide)) rfl T.gis_positive T.fis_positive.kp T.bis_positive .nil pass0 (pa_cons (pv 2) pa_nil))))
      (pss_one (ps_ret pe_non))
      pss_nil)
    (pss_cons (ps_if (pt_cmpR op_eq (pv 0) pe_str (nomark _))
      (pss_one (ps_ret (pe_ifExp (pt_cmpR op_eq (pv 1) pe_str (nomark _)) (pe_tup (pa_cons (pv 0) (pa_cons (pe_un un_neg (pe_callTy call_int_str (by rfl) T.n_int (by decide +kernel) (pa_cons (pv 2) pa_nil))) pa_nil))) pe_non)))
      pss_nil)
    (pss_cons (ps_if (pt_not (pt_val (pe_call (okis_variable T) (hr.mono (by decide)) rfl T.gis_variable T.fis_variable.kp T.bis_variable .nil pass0 (pa_cons (pv 0) pa_nil))))
      (pss_one (ps_ret pe_non))
      pss_nil)
    (pss_one (ps_ret (pe_tup (pa_cons (pv 0) (pa_cons (pe_ifExp (pt_cmpR op_eq (pv 1) pe_str (nomark _)) (pe_un un_neg (pe_callTy call_int_str (by rfl) T.n_int (by decide +kernel) (pa_cons (pv 2) pa_nil))) (pe_callTy call_int_str (by rfl) T.n_int (by decide +kernel) (pa_cons (pv 2) pa_nil))) pa_nil)))))))), ?_⟩
    unfold moved at hm
    split at hm
    · cases hm
    rename_i e1
    have e1 : isPos n = true := by
      cases q : isPos n
      · exact absurd q e1
      · rfl
    refine ⟨_, rfl, n, rfl, by omega, _, rfl, ?_⟩
    rw [e1]
    split at hm
    · rename_i e2
      split at hm
      · rename_i e3
        subst e2 e3
        cases e4 : intText? n with
        | none =>
          rw [e4] at hm
          cases hm
        | some i =>
          rw [e4] at hm
          cases hm
          refine ⟨_, rfl, rfl, _, rfl, ?_⟩
          rw [decide_eq_true rfl]
          refine ⟨_, rfl, rfl, _, rfl, ?_⟩
          rw [decide_eq_true rfl]
          refine ⟨_, rfl, _, rfl, n, i, rfl, e4, hn, _, rfl, (by show 2 ≤ sizeLine; decide), fun t ht => ?_⟩
          exact k _ _ (pl_new (K := K) ht).1 (pl_new ht).2
      · cases hm
    · rename_i e2
      split at hm
      · cases hm
      · rename_i e3
        have e3 : isVar b = true := by
          cases q : isVar b
          · exact absurd q e3
          · rfl
        cases e4 : intText? n with
        | none =>
          rw [e4] at hm
          cases hm
        | some i =>
          rw [e4] at hm
          cases hm
          refine ⟨_, rfl, rfl, _, rfl, ?_⟩
          rw [decide_eq_false (fun z => e2 (V.str.inj z))]
          refine ⟨_, rfl, b, rfl, hb, _, rfl, ?_⟩
          rw [e3]
          refine ⟨_, rfl, _, rfl, rfl, _, rfl, ?_⟩
          refine ite2 (fun z => ?_) (fun z => ?_)
          · dsimp only at k
            have z : sg = "-" := V.str.inj (of_decide_eq_true z)
            rw [if_pos z] at k
            refine ⟨_, rfl, n, i, rfl, e4, hn, _, rfl, (by show 2 ≤ sizeLine; decide), fun t ht => ?_⟩
            exact k _ _ (pl_new (K := K) ht).1 (pl_new ht).2
          · dsimp only at k
            have z : ¬ sg = "-" := fun q => z (decide_eq_true (congrArg V.str q))
            rw [if_neg z] at k
            refine ⟨_, rfl, n, i, rfl, e4, hn, (by show 2 ≤ sizeLine; decide), fun t ht => ?_⟩
            exact k _ _ (pl_new (K := K) ht).1 (pl_new ht).2
end
end K02

set_option Elab.async false
set_option linter.all false
set_option maxRecDepth 100000
set_option maxHeartbeats 4000000
namespace K02
open PySem L2 OW TL
theorem strSub_len (x : Str) (i j : Nat) : (PySem.Builtin.Str.strSub x i j).length ≤ x.length := by
  rw [len_tl, tl_strSub, List.length_take, List.length_drop, len_tl]
  omega
theorem part_len (x y : Str) : (Txt.partition x y).1.length ≤ x.length ∧ (Txt.partition x y).2.2.length ≤ x.length ∧ (Txt.partition x y).2.1.length ≤ y.length := by
  unfold Txt.partition
  split
  · exact ⟨strSub_len _ _ _, strSub_len _ _ _, Nat.le_refl _⟩
  · exact ⟨Nat.le_refl _, Nat.zero_le _, Nat.zero_le _⟩
theorem two_at {α : Type} {i : Nat} {a b x : α} (h : [a, b][i]? = some x) : (i = 0 ∧ x = a) ∨ (i = 1 ∧ x = b) := by
  match i, h with
  | 0, h => exact .inl ⟨rfl, (Option.some.inj h).symm⟩
  | 1, h => exact .inr ⟨rfl, (Option.some.inj h).symm⟩
theorem len_ne {x : Str} (h : ((x.length : Int) != 0) = true) : x.length ≠ 0 := fun z => by
  rw [z] at h
  cases h
theorem ne_len {x : Str} (h : x.length ≠ 0) : ((x.length : Int) != 0) = true := by
  rw [bne_iff_ne]
  omega
section
variable {P : Program} {w : World} {K : PySem.W.Frag} {mg : Str → Option Value} {base : Heap}
theorem oksplit_place (T : Txt K w mg) : FnOk P w K mg base CX0 4 T.asplit_place T.dsplit_place ["word"] (spSplit K) := by
  refine T.fsplit_place.ok scsplit_place (fun vs H Q E h => ?_) (fun cdv A outer s H vs Q E hr h => ?_)
  · obtain ⟨a, r, rfl, _⟩ := h
    rfl
  · obtain ⟨x, r, rfl, hx, hs, k⟩ := h
    refine ⟨_, (pss_cons (ps_if (PW.pt (pw_or (pt_cmpR op_eq (pv 0) pe_str (nomark _)) (pw_or1 (pt_val (pe_call (okis_variable T) (hr.mono (by decide)) rfl T.gis_variable T.fis_variable.kp T.bis_variable .nil pass0 (pa_cons (pv 0) pa_nil))))))
      (pss_one (ps_ret (pe_tup (pa_cons (pv 0) (pa_cons pe_int pa_nil)))))
      pss_nil)
    (pss_cons (ps_if (pt_val (pe_call (okis_count T) (hr.mono (by decide)) rfl T.gis_count T.fis_count.kp T.bis_count .nil pass0 (pa_cons (pv 0) pa_nil)))
      (pss_one (ps_ret (pe_tup (pa_cons pe_str (pa_cons (pe_callTy call_int_str (by rfl) T.n_int (by decide +kernel) (pa_cons (pv 0) pa_nil)) pa_nil)))))
      pss_nil)
    (Evl.pss_cut (ps_for PassesOwn.never rfl (pi_tup (pe_tup (pa_cons pe_str (pa_cons pe_str pa_nil)))) (pg_name (i := 1) scsplit_place.nd rfl (by first | exact Or.inl rfl | exact Or.inr rfl))
      (pss_cons (ps_asg (pe_partition (pv 0) (pv 1)) (pg_tup (by rfl) (pgs_cons (pg_name (i := 2) scsplit_place.nd rfl (by first | exact Or.inl rfl | exact Or.inr rfl)) (pgs_cons (pg_name (i := 3) scsplit_place.nd rfl (by first | exact Or.inl rfl | exact Or.inr rfl)) (pgs_cons (pg_name (i := 4) scsplit_place.nd rfl (by first | exact Or.inl rfl | exact Or.inr rfl)) pgs_nil)))))
      (pss_one (ps_if (pt_truth (pv 3) (by intro _; rfl))
        (pss_one (ps_ret (pe_call (okmoved_place T) (hr.mono (by decide)) rfl T.gmoved_place T.fmoved_place.kp T.bmoved_place .nil pass0 (pa_cons (pv 2) (pa_cons (pv 1) (pa_cons (pv 4) pa_nil))))))
        pss_nil))))
    (pss_one (ps_ret pe_non))))), ?_⟩
    refine ⟨_, rfl, rfl, _, rfl, ?_⟩
    unfold splitPlace at hs
    have ret0 : ∀ H' : Hp, Same H H' → some (x, (0 : Int)) = some r → 2 ≤ sizeLine ∧ ∀ t, H' t = none → Q (.ref t) (upd H' t (.tup [.str x, .int 0])) := fun H' s' e => by
      cases e
      exact ⟨by decide, fun t ht => k _ _ (s'.trans (pl_new (K := K) ht).1) (pl_new ht).2⟩
    refine ite2 (fun e => ?_) (fun e => ?_)
    · rw [if_pos (.inl (V.str.inj (of_decide_eq_true e)))] at hs
      exact ⟨_, rfl, ret0 _ (Same.refl _) hs⟩
    have e : ¬ x = "$" := fun z => e (decide_eq_true (congrArg V.str z))
    refine ⟨_, rfl, x, rfl, by omega, _, rfl, ?_⟩
    cases e2 : isVar x
    case true =>
      rw [if_pos (.inr e2)] at hs
      exact ⟨_, rfl, ret0 _ (Same.refl _) hs⟩
    rw [if_neg (fun z => z.elim e (fun z => by rw [e2] at z; cases z))] at hs
    refine ⟨_, rfl, x, rfl, by omega, _, rfl, ?_⟩
    cases e3 : isCount x
    case true =>
      rw [if_pos e3] at hs
      cases e4 : intText? x with
      | none =>
        rw [e4] at hs
        cases hs
      | some n =>
        rw [e4] at hs
        cases hs
        exact ⟨_, rfl, x, n, rfl, e4, by omega, by show 2 ≤ sizeLine; decide, fun t ht => k _ _ (pl_new (K := K) ht).1 (pl_new ht).2⟩
    rw [if_neg (fun z => by rw [e3] at z; cases z)] at hs
    refine ⟨fun _ _ => False, ⟨by show 2 ≤ sizeLine; decide, fun t ht => ⟨t, rfl, ⟨_, SqT.of upd_same⟩, ?_⟩⟩, fun _ _ z => z.elim⟩
    refine for_tup (K := K) (a := t) (xs := [V.str "+", V.str "-"]) (fun i σ H' => Same H H' ∧ H' t = some (.tup [V.str "+", V.str "-"]) ∧ ((i = 0 ∧ σ = start Nsplit_place [.str x]) ∨ (i = 1 ∧ ∃ a b c d, σ = [some (.str x), a, b, c, d]) ∧ ¬ (Txt.partition x "+").2.1.length ≠ 0))
      ⟨OW.Same.upd_new (Same.refl _) ht, upd_same, .inl ⟨rfl, rfl⟩⟩ (fun i σ H' _ z => SqT.of z.2.1) ?_ ?_
    · rintro i y σ H1 hy ⟨s1, ht1, z⟩
      rcases two_at hy with ⟨rfl, rfl⟩ | ⟨rfl, rfl⟩
      · rcases z with ⟨_, rfl⟩ | ⟨⟨z, _⟩, _⟩
        · refine ⟨_, rfl, ⟨_, rfl⟩, _, rfl, x, "+", rfl, rfl, rfl, Nat.le_of_lt (small1000 (by omega)), fun p hp => ?_⟩
          have s2 := OW.Same.upd_new (o := .tup [.str (Txt.partition x "+").1, .str (Txt.partition x "+").2.1, .str (Txt.partition x "+").2.2]) (Same.refl H1) hp
          refine ⟨p, _, rfl, SqT.of upd_same, rfl, _, _, rfl, _, _, rfl, _, _, rfl, rfl, _, rfl, _, ⟨Nat.le_of_lt (small1000 (Nat.le_trans (part_len _ _).2.2 (by decide))), rfl⟩, ?_⟩
          refine ite2 (fun z => ?_) (fun z => ?_)
          · have z := len_ne z
            rw [if_pos z] at hs
            exact ⟨_, rfl, _, rfl, _, rfl, _, _, _, r, rfl, Nat.le_trans (part_len _ _).1 (by omega), Nat.le_trans (part_len _ _).2.1 (by omega), hs, fun H' v s3 => k H' v ((s1.trans s2).trans s3)⟩
          · exact ⟨s1.trans s2, s2 _ _ ht1, .inr ⟨⟨rfl, _, _, _, _, rfl⟩, fun q => z (ne_len q)⟩⟩
        · cases z
      · rcases z with ⟨z, _⟩ | ⟨⟨_, c1, c2, c3, c4, rfl⟩, z⟩
        · cases z
        · rw [if_neg z] at hs
          refine ⟨_, rfl, ⟨_, rfl⟩, _, rfl, x, "-", rfl, rfl, rfl, Nat.le_of_lt (small1000 (by omega)), fun p hp => ?_⟩
          have s2 := OW.Same.upd_new (o := .tup [.str (Txt.partition x "-").1, .str (Txt.partition x "-").2.1, .str (Txt.partition x "-").2.2]) (Same.refl H1) hp
          refine ⟨p, _, rfl, SqT.of upd_same, rfl, _, _, rfl, _, _, rfl, _, _, rfl, rfl, _, rfl, _, ⟨Nat.le_of_lt (small1000 (Nat.le_trans (part_len _ _).2.2 (by decide))), rfl⟩, ?_⟩
          refine ite2 (fun z => ?_) (fun z => ?_)
          · have z := len_ne z
            rw [if_pos z] at hs
            exact ⟨_, rfl, _, rfl, _, rfl, _, _, _, r, rfl, Nat.le_trans (part_len _ _).1 (by omega), Nat.le_trans (part_len _ _).2.1 (by omega), hs, fun H' v s3 => k H' v ((s1.trans s2).trans s3)⟩
          · rw [if_neg (fun q => z (ne_len q))] at hs
            cases hs
    · rintro σ H1 ⟨_, _, z⟩
      rcases z with ⟨z, _⟩ | ⟨⟨z, _⟩, _⟩
      · cases z
      · cases z
end
end K02

set_option Elab.async false
set_option linter.all false
set_option maxRecDepth 100000
set_option maxHeartbeats 4000000
namespace K02
open PySem L2 OW TL
abbrev Side := Str × Int
def Sds (K : PySem.W.Frag) (H : Hp) (v : V) (p : Side × Side) : Prop := ∃ a x y, v = .ref a ∧ SqT K H a [x, y] ∧ Pl K H x p.1 ∧ Pl K H y p.2
theorem Pl.mono {K : PySem.W.Frag} {H H' : Hp} {v : V} {p : Side} (s : Same H H') (h : Pl K H v p) : Pl K H' v p := by
  obtain ⟨a, e, h⟩ := h
  exact ⟨a, e, same_t s h⟩
theorem Sds.mono {K : PySem.W.Frag} {H H' : Hp} {v : V} {p : Side × Side} (s : Same H H') (h : Sds K H v p) : Sds K H' v p := by
  obtain ⟨a, x, y, e, h, h1, h2⟩ := h
  exact ⟨a, x, y, e, same_t s h, h1.mono s, h2.mono s⟩
def psides (rs : List Str) (l r : Str) : Option (Side × Side) :=
  match splitPlace l, splitPlace r with
  | some s1, some s2 => if s1.1 = s2.1 ∨ s1.1 ∈ rs ∨ s2.1 ∈ rs ∨ (s1.1 ∈ ends ∧ s2.1 ∈ ends) then none else some (s1, s2)
  | _, _ => none
def csides (rs : List Str) (l r : Str) : Option (Side × Side) :=
  if l ∈ rs then (if isCount r = true then (intText? r).map fun n => (("$", 1), ("0", n)) else none) else psides rs l r
def absI (c : Int) : Int := if c < 0 then -c else c
def minI (a b : Int) : Int := if b < a then b else a
def ahead (p : Side × Side) : Int := p.2.2 - p.1.2
def bndC (sg : Str) (p : Side × Side) : Int := if sg = "=" then ahead p else if sg = "<=" then ahead p else if sg = "<" then ahead p - 1 else if sg = ">=" then -ahead p else -ahead p - 1
def bndE (sg : Str) : Str := if sg = "=" then "=" else "<="
def bCost (e : Str) (c : Int) : Int := if e = "=" then absI c else minI (absI c) (absI (c + 1))
def cmpB (x : Int) (sg : Str) (y : Int) : Bool := if sg = "=" then decide (x = y) else if sg = "<=" then decide (x ≤ y) else if sg = "<" then decide (x < y) else if sg = ">=" then decide (y ≤ x) else decide (y < x)
def spPlaceS (K : PySem.W.Frag) : Sp := fun vs H Q _ => ∃ (l r : Str) (a : Addr) (rs : List Str) (p : Side × Side), vs = [.str l, .str r, .ref a] ∧ SqL K H a (rs.map V.str) ∧ l.length ≤ 500 ∧ r.length ≤ 500 ∧ psides rs l r = some p ∧
  ∀ H' v, Same H H' → Sds K H' v p → Q v H'
def spCondS (K : PySem.W.Frag) : Sp := fun vs H Q _ => ∃ (l sg r : Str) (b a : Addr) (rs : List Str) (p : Side × Side), vs = [.ref b, .ref a] ∧ SqL K H b [.str l, .str sg, .str r] ∧ SqL K H a (rs.map V.str) ∧ l.length ≤ 500 ∧ r.length ≤ 500 ∧ sg ∈ signs ∧ csides rs l r = some p ∧
  ∀ H' v, Same H H' → Sds K H' v p → Q v H'
def spBound (K : PySem.W.Frag) : Sp := fun vs H Q _ => ∃ (v : V) (sg : Str) (p : Side × Side), vs = [v, .str sg] ∧ Sds K H v p ∧
  ∀ H' a s1 s2, Same H H' → SqT K H' a [.str s1, .str (bndE sg), .str s2, .int (bndC sg p)] → Q (.ref a) H'
def spBCost (K : PySem.W.Frag) : Sp := fun vs H Q _ => ∃ (a : Addr) (s1 e s2 : Str) (c : Int), vs = [.ref a] ∧ SqT K H a [.str s1, .str e, .str s2, .int c] ∧ Q (.int (bCost e c)) H
def spCmp : Sp := fun vs H Q _ => ∃ (x y : Int) (sg : Str), vs = [.int x, .str sg, .int y] ∧ Q (.bl (cmpB x sg y)) H
/-- what stands at a name -/
def At (b : Str) (kvs : List (Key × V)) (last n : Int) : Prop := (b = "0" ∧ n = 0) ∨ (b ≠ "0" ∧ b = "$" ∧ n = last) ∨ (b ≠ "0" ∧ b ≠ "$" ∧ valV kvs (Sum.inr b) = some (.int n))
def spValue (K : PySem.W.Frag) : Sp := fun vs H Q _ => ∃ (v : V) (p : Side) (d : Addr) (kvs : List (Key × V)) (last n : Int), vs = [v, .ref d, .int last] ∧ Pl K H v p ∧ H d = some (.dK kvs) ∧ At p.1 kvs last n ∧ Q (.int (n + p.2)) H
def spLimit : Sp := fun vs H Q _ => ∃ n : Int, vs = [.str "numbers", .int n] ∧ n ≤ 200 ∧ Q .non H
theorem three_at {α : Type} {a b c : α} : atI [a, b, c] 0 = some a ∧ atI [a, b, c] 1 = some b ∧ atI [a, b, c] 2 = some c := ⟨rfl, rfl, rfl⟩
section
variable {P : Program} {w : World} {K : PySem.W.Frag} {mg : Str → Option Value} {base : Heap}
theorem okplace_sides (T : Txt K w mg) : FnOk P w K mg base CX0 5 T.aplace_sides T.dplace_sides ["left", "right", "ranges"] (spPlaceS K) := by
  refine T.fplace_sides.ok scplace_sides (fun vs H Q E h => ?_) (fun cdv A outer s H vs Q E hr h => ?_)
  · obtain ⟨l, r, a, rs, p, rfl, _⟩ := h
    rfl
  · obtain ⟨l, r, a, rs, p, rfl, ha, hl, hr', hp, k⟩ := h
    refine ⟨_, (pss_cons (ps_set (i := 3) scplace_sides.nd rfl (by first | exact Or.inl rfl | exact Or.inr rfl) (pe_call (oksplit_place T) (hr.mono (by decide)) rfl T.gsplit_place T.fsplit_place.kp T.bsplit_place .nil pass0 (pa_cons (pv 0) pa_nil)))
    (pss_cons (ps_set (i := 4) scplace_sides.nd rfl (by first | exact Or.inl rfl | exact Or.inr rfl) (pe_call (oksplit_place T) (hr.mono (by decide)) rfl T.gsplit_place T.fsplit_place.kp T.bsplit_place .nil pass0 (pa_cons (pv 1) pa_nil)))
    (pss_cons (ps_if (PW.pt (pw_or (pt_cmpR op_isN (pv 3) pe_non (nomark _)) (pw_or (pt_cmpR op_isN (pv 4) pe_non (nomark _)) (pw_or1 (pt_cmpR op_eq (pe_ix ix_tup (pv 3) pe_int (fun _ _ => rfl)) (pe_ix ix_tup (pv 4) pe_int (fun _ _ => rfl)) (nomark _))))))
      (pss_one (ps_ret pe_non))
      pss_nil)
    (pss_cons (ps_if (PW.pt (pw_or (pt_cmpR op_in_seq (pe_ix ix_tup (pv 3) pe_int (fun _ _ => rfl)) (pv 2) (by rfl)) (pw_or1 (pt_cmpR op_in_seq (pe_ix ix_tup (pv 4) pe_int (fun _ _ => rfl)) (pv 2) (by rfl)))))
      (pss_one (ps_ret pe_non))
      pss_nil)
    (pss_cons (ps_if (PW.pt (pw_and (pt_cmpR op_in_seq (pe_ix ix_tup (pv 3) pe_int (fun _ _ => rfl)) (pe_glob (v := .ref T.aENDS) rfl T.gENDS rfl) (by rfl)) (pw_and1 (pt_cmpR op_in_seq (pe_ix ix_tup (pv 4) pe_int (fun _ _ => rfl)) (pe_glob (v := .ref T.aENDS) rfl T.gENDS rfl) (by rfl)))))
      (pss_one (ps_ret pe_non))
      pss_nil)
    (pss_one (ps_ret (pe_tup (pa_cons (pv 3) (pa_cons (pv 4) pa_nil)))))))))), ?_⟩
    unfold psides at hp
    cases e1 : splitPlace l with
    | none =>
      rw [e1] at hp
      cases hp
    | some s1 =>
      cases e2 : splitPlace r with
      | none =>
        rw [e1, e2] at hp
        cases hp
      | some s2 =>
        rw [e1, e2] at hp
        dsimp only at hp
        split at hp
        · cases hp
        · rename_i ne
          cases hp
          obtain ⟨b1, o1⟩ := s1
          obtain ⟨b2, o2⟩ := s2
          refine ⟨_, rfl, l, _, rfl, hl, e1, fun H1 v1 w1 P1 => ⟨_, rfl, r, _, rfl, hr', e2, fun H2 v2 w2 P2 => ?_⟩⟩
          obtain ⟨x1, rfl, h1⟩ := P1.mono w2
          obtain ⟨x2, rfl, h2⟩ := P2
          have ha2 := (w1.trans w2).seq ha
          refine ⟨_, rfl, rfl, _, rfl, ?_⟩
          refine ⟨_, rfl, rfl, _, rfl, ?_⟩
          refine ⟨_, rfl, x1, _, _, _, rfl, rfl, h1, rfl, _, rfl, x2, _, _, _, rfl, rfl, h2, rfl, rfl, _, rfl, ?_⟩
          rw [str_dec, decide_eq_false (fun z => ne (.inl z))]
          refine ⟨_, rfl, x1, _, _, _, rfl, rfl, h1, rfl, _, rfl, a, _, rfl, .inl ha2, rfl, flat_strs _, _, rfl, ?_⟩
          rw [inV_strs, decide_eq_false (fun z => ne (.inr (.inl z)))]
          refine ⟨_, rfl, x2, _, _, _, rfl, rfl, h2, rfl, _, rfl, a, _, rfl, .inl ha2, rfl, flat_strs _, _, rfl, ?_⟩
          rw [inV_strs, decide_eq_false (fun z => ne (.inr (.inr (.inl z))))]
          have fin : 2 ≤ sizeLine ∧ ∀ t, H2 t = none → Q (.ref t) (upd H2 t (.tup [.ref x1, .ref x2])) := ⟨by decide, fun t ht => by
            have sn := OW.Same.upd_new (o := .tup [.ref x1, .ref x2]) (Same.refl H2) ht
            exact k _ _ ((w1.trans w2).trans sn) ⟨t, _, _, rfl, SqT.of upd_same, ⟨x1, rfl, same_t sn h1⟩, ⟨x2, rfl, same_t sn h2⟩⟩⟩
          refine ⟨_, rfl, x1, _, _, _, rfl, rfl, h1, rfl, _, _, rfl, .inr (T.qENDS H2), rfl, flat_strs _, _, rfl, ?_⟩
          rw [inV_strs]
          refine ite2 (fun e3 => ?_) (fun e3 => ⟨_, rfl, _, rfl, fin⟩)
          refine ⟨_, rfl, x2, _, _, _, rfl, rfl, h2, rfl, _, _, rfl, .inr (T.qENDS H2), rfl, flat_strs _, _, rfl, ?_⟩
          rw [inV_strs, decide_eq_false (fun z => ne (.inr (.inr (.inr ⟨of_decide_eq_true e3, z⟩))))]
          exact ⟨_, rfl, _, rfl, fin⟩
end
end K02

set_option Elab.async false
set_option linter.all false
set_option maxRecDepth 100000
set_option maxHeartbeats 4000000
namespace K02
open PySem L2 OW TL
theorem int_dec (a b : Int) : decide (V.int a = V.int b) = decide (a = b) := by
  by_cases h : a = b
  · rw [h, decide_eq_true rfl, decide_eq_true rfl]
  · rw [decide_eq_false h, decide_eq_false (fun e => h (V.int.inj e))]
section
variable {P : Program} {w : World} {K : PySem.W.Frag} {mg : Str → Option Value} {base : Heap}
theorem okcondition_sides (T : Txt K w mg) : FnOk P w K mg base CX0 6 T.acondition_sides T.dcondition_sides ["words", "ranges"] (spCondS K) := by
  refine T.fcondition_sides.ok sccondition_sides (fun vs H Q E h => ?_) (fun cdv A outer s H vs Q E hr h => ?_)
  · obtain ⟨l, sg, r, b, a, rs, p, rfl, _⟩ := h
    rfl
  · obtain ⟨l, sg, r, b, a, rs, p, rfl, hb, ha, hl, hr', hsg, hp, k⟩ := h
    refine ⟨_, (pss_cons (ps_if (PW.pt (pw_or (pt_cmpR op_ne (pe_callB call_len_seq (by rfl) T.n_len (by decide +kernel) (pa_cons (pv 0) pa_nil)) pe_int (nomark _)) (pw_or1 (pt_cmpR op_notIn_seq (pe_ix ix_list (pv 0) pe_int (fun _ _ => rfl)) (pe_glob (v := .ref T.aSIGNS) rfl T.gSIGNS rfl) (by rfl)))))
      (pss_one (ps_ret pe_non))
      pss_nil)
    (pss_cons (ps_if (pt_cmpR op_in_seq (pe_ix ix_list (pv 0) pe_int (fun _ _ => rfl)) (pv 1) (by rfl))
      (pss_one (ps_ret (pe_ifExp (pt_val (pe_call (okis_count T) (hr.mono (by decide)) rfl T.gis_count T.fis_count.kp T.bis_count .nil pass0 (pa_cons (pe_ix ix_list (pv 0) pe_int (fun _ _ => rfl)) pa_nil))) (pe_tup (pa_cons (pe_tup (pa_cons pe_str (pa_cons pe_int pa_nil))) (pa_cons (pe_tup (pa_cons pe_str (pa_cons (pe_callTy call_int_str (by rfl) T.n_int (by decide +kernel) (pa_cons (pe_ix ix_list (pv 0) pe_int (fun _ _ => rfl)) pa_nil)) pa_nil))) pa_nil))) pe_non)))
      pss_nil)
    (pss_one (ps_ret (pe_call (okplace_sides T) (hr.mono (by decide)) rfl T.gplace_sides T.fplace_sides.kp T.bplace_sides .nil pass0 (pa_cons (pe_ix ix_list (pv 0) pe_int (fun _ _ => rfl)) (pa_cons (pe_ix ix_list (pv 0) pe_int (fun _ _ => rfl)) (pa_cons (pv 1) pa_nil)))))))), ?_⟩
    unfold csides at hp
    refine ⟨_, rfl, b, _, rfl, .inl hb, rfl, _, rfl, ?_⟩
    refine ite2 (fun z => absurd z Bool.false_ne_true) (fun _ => ?_)
    refine ⟨_, rfl, b, _, 1, _, rfl, rfl, hb, rfl, _, _, rfl, .inr (T.qSIGNS H), rfl, flat_strs _, _, rfl, ?_⟩
    rw [inV_strs, decide_eq_true hsg]
    refine ⟨_, rfl, b, _, 0, _, rfl, rfl, hb, rfl, _, rfl, a, _, rfl, .inl ha, rfl, flat_strs _, _, rfl, ?_⟩
    rw [inV_strs]
    refine ite2 (fun e => ?_) (fun e => ?_)
    · rw [if_pos (of_decide_eq_true e)] at hp
      refine ⟨_, rfl, b, _, 2, _, rfl, rfl, hb, rfl, r, rfl, by omega, _, rfl, ?_⟩
      split at hp
      · rename_i e2
        rw [e2]
        cases e4 : intText? r with
        | none =>
          rw [e4] at hp
          cases hp
        | some n =>
          rw [e4] at hp
          cases hp
          refine ⟨by show 2 ≤ sizeLine; decide, fun t ht => ?_⟩
          have s1 := OW.Same.upd_new (o := .tup [.str "$", .int 1]) (Same.refl H) ht
          refine ⟨_, rfl, b, _, 2, _, rfl, rfl, s1.seq hb, rfl, r, n, rfl, e4, by omega, by show 2 ≤ sizeLine; decide, fun t2 ht2 => ?_⟩
          have s2 := OW.Same.upd_new (o := .tup [.str "0", .int n]) (Same.refl (upd H t (.tup [.str "$", .int 1]))) ht2
          refine ⟨by show 2 ≤ sizeLine; decide, fun t3 ht3 => ?_⟩
          have s3 := OW.Same.upd_new (o := .tup [.ref t, .ref t2]) (Same.refl (upd (upd H t (.tup [.str "$", .int 1])) t2 (.tup [.str "0", .int n]))) ht3
          exact k _ _ ((s1.trans s2).trans s3) ⟨t3, _, _, rfl, SqT.of upd_same, ⟨t, rfl, same_t (s2.trans s3) (SqT.of upd_same)⟩, ⟨t2, rfl, same_t s3 (SqT.of upd_same)⟩⟩
      · cases hp
    · rw [if_neg (fun z => e (decide_eq_true z))] at hp
      exact ⟨_, rfl, b, _, 0, _, rfl, rfl, hb, rfl, _, rfl, b, _, 2, _, rfl, rfl, hb, rfl, _, rfl, l, r, a, rs, p, rfl, ha, hl, hr', hp, k⟩
theorem okbound_of (T : Txt K w mg) : FnOk P w K mg base CX0 1 T.abound_of T.dbound_of ["sides", "sign"] (spBound K) := by
  refine T.fbound_of.ok scbound_of (fun vs H Q E h => ?_) (fun cdv A outer s H vs Q E hr h => ?_)
  · obtain ⟨v, sg, p, rfl, _⟩ := h
    rfl
  · obtain ⟨v, sg, p, rfl, hv, k⟩ := h
    refine ⟨_, (pss_cons (ps_asg (pv 0) (pg_tup (by rfl) (pgs_cons (pg_name (i := 3) scbound_of.nd rfl (by first | exact Or.inl rfl | exact Or.inr rfl)) (pgs_cons (pg_name (i := 4) scbound_of.nd rfl (by first | exact Or.inl rfl | exact Or.inr rfl)) pgs_nil))))
    (pss_cons (ps_set (i := 2) scbound_of.nd rfl (by first | exact Or.inl rfl | exact Or.inr rfl) (pe_op op_sub (pe_ix ix_tup (pv 4) pe_int (fun _ _ => rfl)) (pe_ix ix_tup (pv 3) pe_int (fun _ _ => rfl))))
    (pss_cons (ps_if (pt_cmpR op_eq (pv 1) pe_str (nomark _))
      (pss_one (ps_ret (pe_tup (pa_cons (pe_ix ix_tup (pv 3) pe_int (fun _ _ => rfl)) (pa_cons pe_str (pa_cons (pe_ix ix_tup (pv 4) pe_int (fun _ _ => rfl)) (pa_cons (pv 2) pa_nil)))))))
      pss_nil)
    (pss_cons (ps_if (pt_cmpR op_eq (pv 1) pe_str (nomark _))
      (pss_one (ps_ret (pe_tup (pa_cons (pe_ix ix_tup (pv 3) pe_int (fun _ _ => rfl)) (pa_cons pe_str (pa_cons (pe_ix ix_tup (pv 4) pe_int (fun _ _ => rfl)) (pa_cons (pv 2) pa_nil)))))))
      pss_nil)
    (pss_cons (ps_if (pt_cmpR op_eq (pv 1) pe_str (nomark _))
      (pss_one (ps_ret (pe_tup (pa_cons (pe_ix ix_tup (pv 3) pe_int (fun _ _ => rfl)) (pa_cons pe_str (pa_cons (pe_ix ix_tup (pv 4) pe_int (fun _ _ => rfl)) (pa_cons (pe_op op_sub (pv 2) pe_int) pa_nil)))))))
      pss_nil)
    (pss_cons (ps_if (pt_cmpR op_eq (pv 1) pe_str (nomark _))
      (pss_one (ps_ret (pe_tup (pa_cons (pe_ix ix_tup (pv 4) pe_int (fun _ _ => rfl)) (pa_cons pe_str (pa_cons (pe_ix ix_tup (pv 3) pe_int (fun _ _ => rfl)) (pa_cons (pe_un un_neg (pv 2)) pa_nil)))))))
      pss_nil)
    (pss_one (ps_ret (pe_tup (pa_cons (pe_ix ix_tup (pv 4) pe_int (fun _ _ => rfl)) (pa_cons pe_str (pa_cons (pe_ix ix_tup (pv 3) pe_int (fun _ _ => rfl)) (pa_cons (pe_op op_sub (pe_un un_neg (pv 2)) pe_int) pa_nil))))))))))))), ?_⟩
    obtain ⟨⟨b1, o1⟩, ⟨b2, o2⟩⟩ := p
    obtain ⟨a, x, y, rfl, ha, ⟨x1, rfl, h1⟩, ⟨x2, rfl, h2⟩⟩ := hv
    refine ⟨_, rfl, a, _, rfl, ha, rfl, _, _, rfl, _, _, rfl, rfl, _, rfl, x2, _, 1, _, rfl, rfl, h2, rfl, _, rfl, x1, _, 1, _, rfl, rfl, h1, rfl, _, _, rfl, rfl, ?_⟩
    have fin : ∀ (s1 s2 : Str) (c : Int), bndC sg ((b1, o1), (b2, o2)) = c → 4 ≤ sizeLine ∧ ∀ t, H t = none → Q (.ref t) (upd H t (.tup [.str s1, .str (bndE sg), .str s2, .int c])) := fun s1 s2 c e => ⟨by decide, fun t ht => by
      subst e
      exact k _ t s1 s2 (OW.Same.upd_new (Same.refl H) ht) (SqT.of upd_same)⟩
    unfold bndC bndE at fin
    refine ⟨_, rfl, rfl, _, rfl, ?_⟩
    refine ite2 (fun z => ?_) (fun z => ?_)
    · have z : sg = "=" := V.str.inj (of_decide_eq_true z)
      refine ⟨_, rfl, x1, _, 0, _, rfl, rfl, h1, rfl, _, rfl, x2, _, 0, _, rfl, rfl, h2, rfl, _, rfl, ?_⟩
      subst z
      exact fin b1 b2 _ rfl
    have n1 : ¬ sg = "=" := fun q => z (decide_eq_true (congrArg V.str q))
    rw [if_neg n1] at fin
    rw [if_neg n1] at fin
    refine ⟨_, rfl, rfl, _, rfl, ?_⟩
    refine ite2 (fun z => ?_) (fun z => ?_)
    · rw [if_pos (V.str.inj (of_decide_eq_true z))] at fin
      exact ⟨_, rfl, x1, _, 0, _, rfl, rfl, h1, rfl, _, rfl, x2, _, 0, _, rfl, rfl, h2, rfl, _, rfl, fin b1 b2 _ rfl⟩
    rw [if_neg (fun q => z (decide_eq_true (congrArg V.str q)))] at fin
    refine ⟨_, rfl, rfl, _, rfl, ?_⟩
    refine ite2 (fun z => ?_) (fun z => ?_)
    · rw [if_pos (V.str.inj (of_decide_eq_true z))] at fin
      exact ⟨_, rfl, x1, _, 0, _, rfl, rfl, h1, rfl, _, rfl, x2, _, 0, _, rfl, rfl, h2, rfl, _, rfl, _, _, rfl, rfl, fin b1 b2 _ rfl⟩
    rw [if_neg (fun q => z (decide_eq_true (congrArg V.str q)))] at fin
    refine ⟨_, rfl, rfl, _, rfl, ?_⟩
    refine ite2 (fun z => ?_) (fun z => ?_)
    · rw [if_pos (V.str.inj (of_decide_eq_true z))] at fin
      exact ⟨_, rfl, x2, _, 0, _, rfl, rfl, h2, rfl, _, rfl, x1, _, 0, _, rfl, rfl, h1, rfl, _, rfl, _, rfl, fin b2 b1 _ rfl⟩
    rw [if_neg (fun q => z (decide_eq_true (congrArg V.str q)))] at fin
    exact ⟨_, rfl, x2, _, 0, _, rfl, rfl, h2, rfl, _, rfl, x1, _, 0, _, rfl, rfl, h1, rfl, _, rfl, _, rfl, _, _, rfl, rfl, fin b2 b1 _ rfl⟩
theorem okbound_cost (T : Txt K w mg) : FnOk P w K mg base CX0 1 T.abound_cost T.dbound_cost ["bound"] (spBCost K) := by
  refine T.fbound_cost.ok scbound_cost (fun vs H Q E h => ?_) (fun cdv A outer s H vs Q E hr h => ?_)
  · obtain ⟨a, s1, e, s2, c, rfl, _⟩ := h
    rfl
  · obtain ⟨a, s1, e, s2, c, rfl, ha, k⟩ := h
    refine ⟨_, (pss_cons (ps_set (i := 1) scbound_cost.nd rfl (by first | exact Or.inl rfl | exact Or.inr rfl) (pe_ix ix_tup (pv 0) pe_int (fun _ _ => rfl)))
    (pss_cons (ps_if (pt_cmpR op_eq (pe_ix ix_tup (pv 0) pe_int (fun _ _ => rfl)) pe_str (nomark _))
      (pss_one (ps_ret (pe_callB call_abs (by rfl) T.n_abs (by decide +kernel) (pa_cons (pv 1) pa_nil))))
      pss_nil)
    (pss_one (ps_ret (pe_callB (call_min2 rfl) (by rfl) T.n_min (by decide +kernel) (pa_cons (pe_callB call_abs (by rfl) T.n_abs (by decide +kernel) (pa_cons (pv 1) pa_nil)) (pa_cons (pe_callB call_abs (by rfl) T.n_abs (by decide +kernel) (pa_cons (pe_op op_add (pv 1) pe_int) pa_nil)) pa_nil))))))), ?_⟩
    unfold bCost at k
    refine ⟨_, rfl, a, _, 3, _, rfl, rfl, ha, rfl, ?_⟩
    refine ⟨_, rfl, a, _, 1, _, rfl, rfl, ha, rfl, rfl, _, rfl, ?_⟩
    refine ite2 (fun z => ?_) (fun z => ?_)
    · rw [if_pos (V.str.inj (of_decide_eq_true z))] at k
      exact ⟨_, rfl, c, rfl, k⟩
    · rw [if_neg (fun q => z (decide_eq_true (congrArg V.str q)))] at k
      exact ⟨_, rfl, c, rfl, _, rfl, _, _, rfl, rfl, _, rfl, _, _, rfl, k⟩
theorem okcompares (T : Txt K w mg) : FnOk P w K mg base CX0 1 T.acompares T.dcompares ["one", "sign", "other"] spCmp := by
  refine T.fcompares.ok sccompares (fun vs H Q E h => ?_) (fun cdv A outer s H vs Q E hr h => ?_)
  · obtain ⟨x, y, sg, rfl, _⟩ := h
    rfl
  · obtain ⟨x, y, sg, rfl, k⟩ := h
    refine ⟨_, (pss_cons (ps_if (pt_cmpR op_eq (pv 1) pe_str (nomark _))
      (pss_one (ps_ret (pe_cmpR op_eq (pv 0) (pv 2) (nomark _))))
      pss_nil)
    (pss_cons (ps_if (pt_cmpR op_eq (pv 1) pe_str (nomark _))
      (pss_one (ps_ret (pe_cmpR op_le (pv 0) (pv 2) (nomark _))))
      pss_nil)
    (pss_cons (ps_if (pt_cmpR op_eq (pv 1) pe_str (nomark _))
      (pss_one (ps_ret (pe_cmpR op_lt (pv 0) (pv 2) (nomark _))))
      pss_nil)
    (pss_cons (ps_if (pt_cmpR op_eq (pv 1) pe_str (nomark _))
      (pss_one (ps_ret (pe_cmpR op_ge (pv 0) (pv 2) (nomark _))))
      pss_nil)
    (pss_one (ps_ret (pe_cmpR op_gt (pv 0) (pv 2) (nomark _)))))))), ?_⟩
    unfold cmpB at k
    refine ⟨_, rfl, rfl, _, rfl, ?_⟩
    refine ite2 (fun z => ?_) (fun z => ?_)
    · rw [if_pos (V.str.inj (of_decide_eq_true z)), ← int_dec] at k
      exact ⟨_, rfl, _, rfl, rfl, k⟩
    rw [if_neg (fun q => z (decide_eq_true (congrArg V.str q)))] at k
    refine ⟨_, rfl, rfl, _, rfl, ?_⟩
    refine ite2 (fun z => ?_) (fun z => ?_)
    · rw [if_pos (V.str.inj (of_decide_eq_true z))] at k
      exact ⟨_, rfl, _, rfl, _, _, rfl, rfl, k⟩
    rw [if_neg (fun q => z (decide_eq_true (congrArg V.str q)))] at k
    refine ⟨_, rfl, rfl, _, rfl, ?_⟩
    refine ite2 (fun z => ?_) (fun z => ?_)
    · rw [if_pos (V.str.inj (of_decide_eq_true z))] at k
      exact ⟨_, rfl, _, rfl, _, _, rfl, rfl, k⟩
    rw [if_neg (fun q => z (decide_eq_true (congrArg V.str q)))] at k
    refine ⟨_, rfl, rfl, _, rfl, ?_⟩
    refine ite2 (fun z => ?_) (fun z => ?_)
    · rw [if_pos (V.str.inj (of_decide_eq_true z))] at k
      exact ⟨_, rfl, _, rfl, _, _, rfl, rfl, k⟩
    rw [if_neg (fun q => z (decide_eq_true (congrArg V.str q)))] at k
    exact ⟨_, rfl, _, rfl, _, _, rfl, rfl, k⟩
theorem okvalue_of (T : Txt K w mg) : FnOk P w K mg base CX0 1 T.avalue_of T.dvalue_of ["pair", "values", "last"] (spValue K) := by
  refine T.fvalue_of.ok scvalue_of (fun vs H Q E h => ?_) (fun cdv A outer s H vs Q E hr h => ?_)
  · obtain ⟨v, p, d, kvs, last, n, rfl, _⟩ := h
    rfl
  · obtain ⟨v, ⟨b, o⟩, d, kvs, last, n, rfl, ⟨x, rfl, hx⟩, hd, hat, k⟩ := h
    refine ⟨_, (pss_cons (ps_asg (pv 0) (pg_tup (by rfl) (pgs_cons (pg_name (i := 3) scvalue_of.nd rfl (by first | exact Or.inl rfl | exact Or.inr rfl)) (pgs_cons (pg_name (i := 4) scvalue_of.nd rfl (by first | exact Or.inl rfl | exact Or.inr rfl)) pgs_nil))))
    (pss_cons (ps_if (pt_cmpR op_eq (pv 3) pe_str (nomark _))
      (pss_one (ps_ret (pv 4)))
      pss_nil)
    (pss_cons (ps_if (pt_cmpR op_eq (pv 3) pe_str (nomark _))
      (pss_one (ps_ret (pe_op op_add (pv 2) (pv 4))))
      pss_nil)
    (pss_cons (ps_if (pt_cmp (pc_dnotin (hu_of hr) (pv 3) (pv 1)))
      (pss_one ps_never)
      pss_nil)
    (pss_one (ps_ret (pe_op op_add (pe_dget (hu_of hr) (pv 1) (pv 3) (fun _ _ => rfl)) (pv 4)))))))), ?_⟩
    refine ⟨_, rfl, x, _, rfl, hx, rfl, _, _, rfl, _, _, rfl, rfl, _, rfl, rfl, _, rfl, ?_⟩
    rcases hat with ⟨rfl, rfl⟩ | ⟨h1, rfl, rfl⟩ | ⟨h1, h2, h3⟩
    · rw [decide_eq_true rfl]
      refine ⟨_, rfl, ?_⟩
      rw [Int.zero_add] at k
      exact k
    · rw [decide_eq_false (fun z => h1 (V.str.inj z))]
      refine ⟨_, rfl, rfl, _, rfl, ?_⟩
      rw [decide_eq_true rfl]
      exact ⟨_, rfl, _, rfl, _, _, rfl, rfl, k⟩
    · rw [decide_eq_false (fun z => h1 (V.str.inj z))]
      refine ⟨_, rfl, rfl, _, rfl, ?_⟩
      rw [decide_eq_false (fun z => h2 (V.str.inj z))]
      refine ⟨_, rfl, _, rfl, d, _, rfl, DGet.k (k := Sum.inr b) hd, _, rfl, ?_⟩
      rw [h3]
      exact ⟨_, rfl, _, rfl, d, V.int n, rfl, by rw [← h3]; exact DGet.k (k := Sum.inr b) hd, _, rfl, _, _, rfl, rfl, k⟩
theorem okcheck_limit (T : Txt K w mg) : FnOk P w K mg base CX0 1 T.acheck_limit T.dcheck_limit ["what", "many"] spLimit := by
  refine T.fcheck_limit.ok sccheck_limit (fun vs H Q E h => ?_) (fun cdv A outer s H vs Q E hr h => ?_)
  · obtain ⟨n, rfl, _⟩ := h
    rfl
  · obtain ⟨n, rfl, hn, k⟩ := h
    refine ⟨_, (pss_one (ps_if (pt_cmpR op_gt (pv 1) (pe_ix ix_kdict (pe_glob (v := .ref T.aLIMITS) rfl T.gLIMITS rfl) (pv 0) (fun _ _ => rfl)) (nomark _))
      (pss_one ps_never)
      pss_nil)), ?_⟩
    refine ⟨_, rfl, _, rfl, T.aLIMITS, _, _, rfl, rfl, T.qLIMITS, _, _, rfl, rfl, _, rfl, ?_⟩
    refine ite2 (fun z => ?_) (fun z => k)
    have := of_decide_eq_true z
    omega
end
end K02

set_option Elab.async false
set_option linter.all false
set_option maxRecDepth 100000
set_option maxHeartbeats 4000000
namespace K02
open PySem L2 OW TL
/-- the text t says: the places p, compared by the sign sg -/
def Reads (rs : List Str) (t sg : Str) (p : Side × Side) : Prop := ∃ w1 w2, Txt.split t " " = [w1, sg, w2] ∧ t.length ≤ 100 ∧ w1.length ≤ 500 ∧ w2.length ≤ 500 ∧ sg ∈ signs ∧ csides rs w1 w2 = some p ∧ absI p.1.2 ≤ 200 ∧ absI p.2.2 ≤ 200
def costOf (sg : Str) (p : Side × Side) : Int := bCost (bndE sg) (bndC sg p)
def spMade (K : PySem.W.Frag) : Sp := fun vs H Q _ => ∃ (t : Str) (a : Addr) (rs : List Str) (sg : Str) (p : Side × Side), vs = [.str t, .ref a] ∧ SqL K H a (rs.map V.str) ∧ Reads rs t sg p ∧ ∀ H' v, Same H H' → Sds K H' v p → Q v H'
def spCost (K : PySem.W.Frag) : Sp := fun vs H Q _ => ∃ (t : Str) (a : Addr) (rs : List Str) (sg : Str) (p : Side × Side), vs = [.str t, .ref a] ∧ SqL K H a (rs.map V.str) ∧ Reads rs t sg p ∧ ∀ H', Same H H' → Q (.int (costOf sg p)) H'
def spHolds (K : PySem.W.Frag) : Sp := fun vs H Q _ => ∃ (t : Str) (d : Addr) (kvs : List (Key × V)) (last : Int) (a : Addr) (rs : List Str) (sg : Str) (p : Side × Side) (n m : Int), vs = [.str t, .ref d, .int last, .ref a] ∧ H d = some (.dK kvs) ∧ SqL K H a (rs.map V.str) ∧ Reads rs t sg p ∧
  At p.1.1 kvs last n ∧ At p.2.1 kvs last m ∧ ∀ H', Same H H' → Q (.bl (cmpB (n + p.1.2) sg (m + p.2.2))) H'
theorem split_ok {t : Str} (h : t.length ≤ 100) : t.length + 2 ≤ sizeLine := Nat.le_of_lt (small1000 (by omega))
section
variable {P : Program} {w : World} {K : PySem.W.Frag} {mg : Str → Option Value} {base : Heap}
theorem okmade_sides (T : Txt K w mg) : FnOk P w K mg base CX0 7 T.amade_sides T.dmade_sides ["text", "ranges"] (spMade K) := by
  refine T.fmade_sides.ok scmade_sides (fun vs H Q E h => ?_) (fun cdv A outer s H vs Q E hr h => ?_)
  · obtain ⟨t, a, rs, sg, p, rfl, _⟩ := h
    rfl
  · obtain ⟨t, a, rs, sg, p, rfl, ha, ⟨w1, w2, e1, lt, l1, l2, hs, hp, o1, o2⟩, k⟩ := h
    refine ⟨_, (pss_cons (ps_set (i := 2) scmade_sides.nd rfl (by first | exact Or.inl rfl | exact Or.inr rfl) (pe_call (okcondition_sides T) (hr.mono (by decide)) rfl T.gcondition_sides T.fcondition_sides.kp T.bcondition_sides .nil pass0 (pa_cons (pe_split (pv 0) pe_str) (pa_cons (pv 1) pa_nil))))
    (pss_cons (ps_if (pt_cmpR op_isN (pv 2) pe_non (nomark _))
      (pss_one ps_never)
      pss_nil)
    (pss_one (ps_ret (pv 2))))), ?_⟩
    refine ⟨_, rfl, ⟨_, rfl⟩, _, _, rfl, rfl, rfl, split_ok lt, fun b hb => ?_⟩
    rw [e1]
    have s1 := OW.Same.upd_new (o := .lst [V.str w1, .str sg, .str w2]) (Same.refl H) hb
    refine ⟨_, rfl, w1, sg, w2, b, a, rs, p, rfl, SqL.of upd_same, s1.seq ha, l1, l2, hs, hp, fun H2 v s2 hv => ?_⟩
    obtain ⟨c, x, y, rfl, hc⟩ := id hv
    exact ⟨_, rfl, rfl, _, rfl, _, rfl, k _ _ (s1.trans s2) hv⟩
theorem okread_sides (T : Txt K w mg) : FnOk P w K mg base CX0 8 T.aread_sides T.dread_sides ["text", "ranges"] (spMade K) := by
  refine T.fread_sides.ok scread_sides (fun vs H Q E h => ?_) (fun cdv A outer s H vs Q E hr h => ?_)
  · obtain ⟨t, a, rs, sg, p, rfl, _⟩ := h
    rfl
  · obtain ⟨t, a, rs, sg, p, rfl, ha, hR, k⟩ := h
    refine ⟨_, (pss_cons (ps_set (i := 2) scread_sides.nd rfl (by first | exact Or.inl rfl | exact Or.inr rfl) (pe_call (okmade_sides T) (hr.mono (by decide)) rfl T.gmade_sides T.fmade_sides.kp T.bmade_sides .nil pass0 (pa_cons (pv 0) (pa_cons (pv 1) pa_nil))))
    (Evl.pss_cut (ps_for PassesOwn.never rfl (pi_tup (pv 2)) (pg_tup (by rfl) (pgs_cons (pg_name (i := 3) scread_sides.nd rfl (by first | exact Or.inl rfl | exact Or.inr rfl)) (pgs_cons (pg_name (i := 4) scread_sides.nd rfl (by first | exact Or.inl rfl | exact Or.inr rfl)) pgs_nil)))
      (pss_one (ps_expr (pe_call (okcheck_limit T) (hr.mono (by decide)) rfl T.gcheck_limit T.fcheck_limit.kp T.bcheck_limit .nil pass0 (pa_cons pe_str (pa_cons (pe_callB call_abs (by rfl) T.n_abs (by decide +kernel) (pa_cons (pv 4) pa_nil)) pa_nil))))))
    (pss_one (ps_ret (pv 2))))), ?_⟩
    refine ⟨_, rfl, _, rfl, t, a, rs, sg, p, rfl, ha, hR, fun H1 v s1 hv => ?_⟩
    obtain ⟨w1, w2, e1, lt, l1, l2, hs, hp, o1, o2⟩ := hR
    obtain ⟨c, x, y, rfl, hc, hx, hy⟩ := id hv
    refine ⟨fun σ H' => H' = H1 ∧ ∃ q1 q2, σ = [some (.str t), some (.ref a), some (.ref c), q1, q2], ⟨_, rfl, c, rfl, ⟨_, hc⟩, ?_⟩, ?_⟩
    · refine for_tup (K := K) (a := c) (xs := [x, y]) (fun i σ H' => H' = H1 ∧ ∃ q1 q2, σ = [some (.str t), some (.ref a), some (.ref c), q1, q2]) ⟨rfl, none, none, rfl⟩ (fun i σ H' _ z => by rw [z.1]; exact hc) ?_ (fun σ H' z => z)
      rintro i z σ H' hz ⟨rfl, q1, q2, rfl⟩
      rcases two_at hz with ⟨_, rfl⟩ | ⟨_, rfl⟩
      · obtain ⟨x1, rfl, h1⟩ := hx
        exact ⟨x1, _, rfl, h1, rfl, _, _, rfl, _, _, rfl, rfl, _, rfl, _, rfl, _, rfl, o1, rfl, _, _, rfl⟩
      · obtain ⟨x1, rfl, h1⟩ := hy
        exact ⟨x1, _, rfl, h1, rfl, _, _, rfl, _, _, rfl, rfl, _, rfl, _, rfl, _, rfl, o2, rfl, _, _, rfl⟩
    · rintro σ H' ⟨rfl, q1, q2, rfl⟩
      exact ⟨_, rfl, k _ _ s1 hv⟩
theorem okcondition_cost (T : Txt K w mg) : FnOk P w K mg base CX0 9 T.acondition_cost T.dcondition_cost ["text", "ranges"] (spCost K) := by
  refine T.fcondition_cost.ok sccondition_cost (fun vs H Q E h => ?_) (fun cdv A outer s H vs Q E hr h => ?_)
  · obtain ⟨t, a, rs, sg, p, rfl, _⟩ := h
    rfl
  · obtain ⟨t, a, rs, sg, p, rfl, ha, hR, k⟩ := h
    refine ⟨_, (pss_cons (ps_set (i := 2) sccondition_cost.nd rfl (by first | exact Or.inl rfl | exact Or.inr rfl) (pe_call (okread_sides T) (hr.mono (by decide)) rfl T.gread_sides T.fread_sides.kp T.bread_sides .nil pass0 (pa_cons (pv 0) (pa_cons (pv 1) pa_nil))))
    (pss_one (ps_ret (pe_call (okbound_cost T) (hr.mono (by decide)) rfl T.gbound_cost T.fbound_cost.kp T.bbound_cost .nil pass0 (pa_cons (pe_call (okbound_of T) (hr.mono (by decide)) rfl T.gbound_of T.fbound_of.kp T.bbound_of .nil pass0 (pa_cons (pv 2) (pa_cons (pe_ix ix_list (pe_split (pv 0) pe_str) pe_int (fun _ _ => rfl)) pa_nil))) pa_nil))))), ?_⟩
    refine ⟨_, rfl, _, rfl, t, a, rs, sg, p, rfl, ha, hR, fun H1 v s1 hv => ?_⟩
    obtain ⟨w1, w2, e1, lt, l1, l2, hs, hp, o1, o2⟩ := hR
    refine ⟨_, rfl, _, rfl, ⟨_, rfl⟩, _, _, rfl, rfl, rfl, split_ok lt, fun b hb => ?_⟩
    rw [e1]
    have s2 := OW.Same.upd_new (o := .lst [V.str w1, .str sg, .str w2]) (Same.refl H1) hb
    refine ⟨b, _, 1, _, rfl, rfl, SqL.of upd_same, rfl, _, _, _, rfl, hv.mono s2, fun H3 d z1 z2 s3 hd => ?_⟩
    exact ⟨d, _, _, _, _, rfl, hd, k _ ((s1.trans s2).trans s3)⟩
theorem okcondition_holds (T : Txt K w mg) : FnOk P w K mg base CX0 9 T.acondition_holds T.dcondition_holds ["text", "values", "last", "ranges"] (spHolds K) := by
  refine T.fcondition_holds.ok sccondition_holds (fun vs H Q E h => ?_) (fun cdv A outer s H vs Q E hr h => ?_)
  · obtain ⟨t, d, kvs, last, a, rs, sg, p, n, m, rfl, _⟩ := h
    rfl
  · obtain ⟨t, d, kvs, last, a, rs, sg, p, n, m, rfl, hd, ha, hR, an, am, k⟩ := h
    refine ⟨_, (pss_cons (ps_asg (pe_call (okread_sides T) (hr.mono (by decide)) rfl T.gread_sides T.fread_sides.kp T.bread_sides .nil pass0 (pa_cons (pv 0) (pa_cons (pv 3) pa_nil))) (pg_tup (by rfl) (pgs_cons (pg_name (i := 6) sccondition_holds.nd rfl (by first | exact Or.inl rfl | exact Or.inr rfl)) (pgs_cons (pg_name (i := 7) sccondition_holds.nd rfl (by first | exact Or.inl rfl | exact Or.inr rfl)) pgs_nil))))
    (pss_cons (ps_set (i := 4) sccondition_holds.nd rfl (by first | exact Or.inl rfl | exact Or.inr rfl) (pe_call (okvalue_of T) (hr.mono (by decide)) rfl T.gvalue_of T.fvalue_of.kp T.bvalue_of .nil pass0 (pa_cons (pv 6) (pa_cons (pv 1) (pa_cons (pv 2) pa_nil)))))
    (pss_cons (ps_set (i := 5) sccondition_holds.nd rfl (by first | exact Or.inl rfl | exact Or.inr rfl) (pe_call (okvalue_of T) (hr.mono (by decide)) rfl T.gvalue_of T.fvalue_of.kp T.bvalue_of .nil pass0 (pa_cons (pv 7) (pa_cons (pv 1) (pa_cons (pv 2) pa_nil)))))
    (pss_one (ps_ret (pe_call (okcompares T) (hr.mono (by decide)) rfl T.gcompares T.fcompares.kp T.bcompares .nil pass0 (pa_cons (pv 4) (pa_cons (pe_ix ix_list (pe_split (pv 0) pe_str) pe_int (fun _ _ => rfl)) (pa_cons (pv 5) pa_nil))))))))), ?_⟩
    refine ⟨_, rfl, _, rfl, t, a, rs, sg, p, rfl, ha, hR, fun H1 v s1 hv => ?_⟩
    obtain ⟨w1, w2, e1, lt, l1, l2, hs, hp, o1, o2⟩ := hR
    obtain ⟨c, x, y, rfl, hc, hx, hy⟩ := id hv
    refine ⟨c, _, rfl, hc, rfl, _, _, rfl, _, _, rfl, rfl, ?_⟩
    refine ⟨_, rfl, _, rfl, _, rfl, x, p.1, d, kvs, last, n, rfl, hx, s1 _ _ hd, an, ?_⟩
    refine ⟨_, rfl, _, rfl, _, rfl, y, p.2, d, kvs, last, m, rfl, hy, s1 _ _ hd, am, ?_⟩
    refine ⟨_, rfl, _, rfl, ⟨_, rfl⟩, _, _, rfl, rfl, rfl, split_ok lt, fun b hb => ?_⟩
    rw [e1]
    have s2 := OW.Same.upd_new (o := .lst [V.str w1, .str sg, .str w2]) (Same.refl H1) hb
    refine ⟨b, _, 1, _, rfl, rfl, SqL.of upd_same, rfl, _, rfl, _, _, _, rfl, k _ (s1.trans s2)⟩
end
end K02

set_option Elab.async false
set_option linter.all false
set_option maxRecDepth 100000
set_option maxHeartbeats 4000000
namespace K02
open PySem L2 OW TL
/-! ### the bag: a generator of numbers; only its form matters -/
def Box (b c : Addr) (H : Hp) : Prop := ∃ (i p sd n : Int) (cells : List Int), H b = some (.lst [.ref c, .int i, .int p, .int sd, .int n]) ∧ H c = some (.lst (cells.map V.int)) ∧ 0 ≤ i ∧ 0 ≤ p ∧ 0 ≤ sd ∧ sd < 2147483647 ∧ 0 ≤ n
/-- all but the bag's list stays -/
def FrB (b : Addr) (H H' : Hp) : Prop := ∀ a o, a ≠ b → H a = some o → H' a = some o
theorem FrB.refl (b : Addr) (H : Hp) : FrB b H H := fun _ _ _ h => h
theorem FrB.trans {b : Addr} {H H1 H2 : Hp} (x : FrB b H H1) (y : FrB b H1 H2) : FrB b H H2 := fun a o h1 h => y a o h1 (x a o h1 h)
theorem FrB.of {b : Addr} {H H' : Hp} (x : Same H H') : FrB b H H' := fun a o _ h => x a o h
theorem Box.same {b c : Addr} {H H' : Hp} (x : Box b c H) (s : Same H H') : Box b c H' := by
  obtain ⟨i, p, sd, n, cs, h1, h2, r⟩ := x
  exact ⟨i, p, sd, n, cs, s _ _ h1, s _ _ h2, r⟩
theorem box_bc {b c : Addr} {i p sd n : Int} {cs : List Int} {H : Hp} (h1 : H b = some (.lst [.ref c, .int i, .int p, .int sd, .int n])) (h2 : H c = some (.lst (cs.map V.int))) : b ≠ c :=
  ne_of h1 h2 fun e => by
    injection e with e
    have e2 := congrArg (fun l => l[0]?) e
    simp only [List.getElem?_map] at e2
    have e3 : some (V.ref c) = (cs[0]?).map V.int := e2
    cases q : cs[0]? with
    | none => rw [q] at e3; cases e3
    | some z => rw [q] at e3; cases e3
theorem small_log {n : Int} (h0 : 0 < n) (h : n ≤ 10 ^ 21) : n.natAbs.log2 < 9000 := by
  have h1 : n.natAbs < 2 ^ 70 := by omega
  have h2 : n.natAbs ≠ 0 := by omega
  have := (Nat.log2_lt h2).mpr h1
  omega
def spDraw : Sp := fun vs H Q _ => ∃ (b c : Addr) (many : Int), vs = [.ref b, .int many] ∧ Box b c H ∧ 0 < many ∧ many ≤ 10 ^ 21 ∧ ∀ (H' : Hp) (t : Int), Box b c H' → FrB b H H' → 0 ≤ t → t < many → Q (.int t) H'
section
variable {P : Program} {w : World} {K : PySem.W.Frag} {mg : Str → Option Value} {base : Heap}
theorem ok_law_draw (T : Txt K w mg) : FnOk P w K mg base CX0 1 T.a_law_draw T.d_law_draw ["bag", "many"] spDraw := by
  refine T.f_law_draw.ok sc_law_draw (fun vs H Q E h => ?_) (fun cdv A outer s H vs Q E hr h => ?_)
  · obtain ⟨b, c, m, rfl, _⟩ := h
    rfl
  · obtain ⟨b, c, m, rfl, ⟨i, p, sd, n, cs, hb, hc, i0, p0, s0, s1, n0⟩, m0, m1, k⟩ := h
    have nbc := box_bc hb hc
    refine ⟨_, (pss_cons (ps_asg (pe_op op_add (pe_ix ix_list (pv 0) pe_int (fun _ _ => rfl)) pe_int) (pg_sub (pv 0) pe_int set_list))
    (Evl.pss_cut (ps_if (PW.pt (pw_and (pt_cmpR op_eq (pe_ix ix_list (pv 0) pe_int (fun _ _ => rfl)) pe_int (nomark _)) (pw_and1 (pt_cmpR op_lt (pe_ix ix_list (pv 0) pe_int (fun _ _ => rfl)) (pe_callB call_len_seq (by rfl) T.n_len (by decide +kernel) (pa_cons (pe_ix ix_list (pv 0) pe_int (fun _ _ => rfl)) pa_nil)) (nomark _)))))
      (pss_cons (ps_set (i := 3) sc_law_draw.nd rfl (by first | exact Or.inl rfl | exact Or.inr rfl) (pe_ix ix_list (pe_ix ix_list (pv 0) pe_int (fun _ _ => rfl)) (pe_ix ix_list (pv 0) pe_int (fun _ _ => rfl)) (fun _ _ => rfl)))
      (pss_cons (ps_asg (pe_op op_add (pe_ix ix_list (pv 0) pe_int (fun _ _ => rfl)) pe_int) (pg_sub (pv 0) pe_int set_list))
      (pss_one (ps_if (pt_cmpR op_ge (pv 3) (pe_op op_pow pe_int pe_int) (nomark _))
        (pss_one (ps_asg (pv 3) (pg_sub (pv 0) pe_int set_list)))
        (pss_one (ps_asg (pe_op op_mod (pe_callTy call_int1 (by rfl) T.n_int (by decide +kernel) (pa_cons (pe_op op_add (pe_op op_add (pe_op op_mul (pe_ix ix_list (pv 0) pe_int (fun _ _ => rfl)) pe_int) (pe_op op_mul (pe_op op_mod (pe_callTy call_int1 (by rfl) T.n_int (by decide +kernel) (pa_cons (pv 3) pa_nil)) pe_int) pe_int)) pe_int) pa_nil)) pe_int) (pg_sub (pv 0) pe_int set_list)))))))
      pss_nil)
    (pss_cons (ps_if (pt_cmpR op_gt (pe_ix ix_list (pv 0) pe_int (fun _ _ => rfl)) pe_int (nomark _))
      (pss_cons (ps_set (i := 4) sc_law_draw.nd rfl (by first | exact Or.inl rfl | exact Or.inr rfl) (pe_op op_mod (pe_callTy call_int1 (by rfl) T.n_int (by decide +kernel) (pa_cons (pe_ix ix_list (pv 0) pe_int (fun _ _ => rfl)) pa_nil)) (pv 1)))
      (pss_cons (ps_asg (pe_op op_fdivW (pe_ix ix_list (pv 0) pe_int (fun _ _ => rfl)) (pv 1)) (pg_sub (pv 0) pe_int set_list))
      (pss_one (ps_ret (pv 4)))))
      pss_nil)
    (pss_cons (ps_set (i := 2) sc_law_draw.nd rfl (by first | exact Or.inl rfl | exact Or.inr rfl) (pe_op op_mod (pe_callTy call_int1 (by rfl) T.n_int (by decide +kernel) (pa_cons (pe_op op_add (pe_ix ix_list (pv 0) pe_int (fun _ _ => rfl)) (pe_op op_mul (pe_ix ix_list (pv 0) pe_int (fun _ _ => rfl)) pe_int)) pa_nil)) pe_int))
    (pss_cons (ps_set (i := 2) sc_law_draw.nd rfl (by first | exact Or.inl rfl | exact Or.inr rfl) (pe_op op_mod (pe_callTy call_int1 (by rfl) T.n_int (by decide +kernel) (pa_cons (pe_op op_pow (pv 2) pe_int) pa_nil)) pe_int))
    (pss_one (ps_ret (pe_op op_mod (pe_callTy call_int1 (by rfl) T.n_int (by decide +kernel) (pa_cons (pe_op op_fdivW (pv 2) pe_int) pa_nil)) (pv 1))))))))), ?_⟩
    refine ⟨_, rfl, b, _, _, _, rfl, rfl, SqL.of hb, rfl, _, _, rfl, rfl, _, rfl, b, _, _, _, rfl, rfl, hb, rfl, ?_⟩
    let H0 : Hp := upd H b (.lst [.ref c, .int i, .int p, .int sd, .int (n + 1)])
    have hb0 : H0 b = some (.lst [.ref c, .int i, .int p, .int sd, .int (n + 1)]) := upd_same
    have hc0 : H0 c = some (.lst (cs.map V.int)) := (upd_ne nbc.symm).trans hc
    have f0 : FrB b H H0 := fun a o h1 h2 => (upd_ne h1).trans h2
    refine ⟨fun σ H1 => (∃ x, σ = [some (.ref b), some (.int m), none, x, none]) ∧ FrB b H H1 ∧ H1 c = some (.lst (cs.map V.int)) ∧ ∃ i' p' sd' : Int, H1 b = some (.lst [.ref c, .int i', .int p', .int sd', .int (n + 1)]) ∧ 0 ≤ i' ∧ 0 ≤ p' ∧ 0 ≤ sd' ∧ sd' < 2147483647, ?_, ?_⟩
    · refine ⟨_, rfl, b, _, _, _, rfl, rfl, SqL.of hb0, rfl, rfl, _, rfl, ?_⟩
      refine ite2 (fun _ => ?_) (fun _ => ⟨⟨_, rfl⟩, f0, hc0, _, _, _, hb0, i0, p0, s0, s1⟩)
      refine ⟨_, rfl, b, _, _, _, rfl, rfl, SqL.of hb0, rfl, _, rfl, b, _, _, _, rfl, rfl, SqL.of hb0, rfl, c, _, rfl, .inl (SqL.of hc0), _, _, rfl, rfl, _, rfl, ?_⟩
      refine ite2 (fun e => ?_) (fun _ => ⟨⟨_, rfl⟩, f0, hc0, _, _, _, hb0, i0, p0, s0, s1⟩)
      have e := of_decide_eq_true e
      rw [List.length_map] at e
      have hlt : i.toNat < cs.length := by omega
      have hx : (cs.map V.int)[i.toNat]? = some (.int cs[i.toNat]) := by
        rw [List.getElem?_map, List.getElem?_eq_getElem hlt]
        rfl
      refine ⟨_, rfl, b, _, _, _, rfl, rfl, SqL.of hb0, rfl, _, rfl, b, _, _, _, rfl, rfl, SqL.of hb0, rfl, c, _, i, _, rfl, rfl, SqL.of hc0, at_of (by omega) hx, ?_⟩
      generalize cs[i.toNat] = x
      refine ⟨_, rfl, b, _, _, _, rfl, rfl, SqL.of hb0, rfl, _, _, rfl, rfl, _, rfl, b, _, _, _, rfl, rfl, hb0, rfl, ?_⟩
      let H2 : Hp := upd H0 b (.lst [.ref c, .int (i + 1), .int p, .int sd, .int (n + 1)])
      have hb2 : H2 b = some (.lst [.ref c, .int (i + 1), .int p, .int sd, .int (n + 1)]) := upd_same
      have hc2 : H2 c = some (.lst (cs.map V.int)) := (upd_ne nbc.symm).trans hc0
      have f2 : FrB b H H2 := fun a o h1 h2 => (upd_ne h1).trans (f0 a o h1 h2)
      refine ⟨_, rfl, _, _, rfl, rfl, ⟨by decide, by decide, by decide⟩, _, _, rfl, rfl, _, rfl, ?_⟩
      refine ite2 (fun e => ?_) (fun e => ?_)
      · have e' : (10 : Int) ^ (18 : Int).toNat ≤ x := of_decide_eq_true e
        have e2 : (0 : Int) ≤ x := Int.le_trans (by decide) e'
        refine ⟨_, rfl, _, rfl, b, _, _, _, rfl, rfl, hb2, rfl, ?_⟩
        exact ⟨⟨_, rfl⟩, fun a o h1 h2 => (upd_ne h1).trans (f2 a o h1 h2), (upd_ne nbc.symm).trans hc2, _, _, _, upd_same, by omega, e2, s0, s1⟩
      · have j0 := Int.emod_nonneg x (by decide : (2147483587 : Int) ≠ 0)
        have j1 := Int.emod_lt_of_pos x (by decide : (0 : Int) < 2147483587)
        refine ⟨_, rfl, b, _, _, _, rfl, rfl, SqL.of hb2, rfl, _, _, rfl, rfl, .inl ⟨by omega, by omega⟩, _, rfl, .inl ⟨_, rfl, _, _, rfl, rfl, (by decide : (0 : Int) < 2147483587), _, _, rfl, rfl, .inl ⟨by omega, by omega⟩, _, _, rfl, rfl, _, _, rfl, rfl, .inl ⟨_, rfl, _, _, rfl, rfl, (by decide : (0 : Int) < 2147483563), _, rfl, b, _, _, _, rfl, rfl, hb2, rfl, ?_⟩⟩⟩
        exact ⟨⟨_, rfl⟩, fun a o h1 h2 => (upd_ne h1).trans (f2 a o h1 h2), (upd_ne nbc.symm).trans hc2, _, _, _, upd_same, by omega, p0, Int.emod_nonneg _ (by decide), Int.lt_trans (Int.emod_lt_of_pos _ (by decide)) (by decide)⟩
    · rintro σ H1 ⟨⟨x, rfl⟩, f1, hc1, i', p', sd', hb1, i0', p0', s0', s1'⟩
      refine ⟨_, rfl, b, _, _, _, rfl, rfl, SqL.of hb1, rfl, _, _, rfl, rfl, _, rfl, ?_⟩
      refine ite2 (fun _ => ?_) (fun _ => ?_)
      · refine ⟨_, rfl, b, _, _, _, rfl, rfl, SqL.of hb1, rfl, .inl ⟨_, rfl, _, rfl, _, _, rfl, rfl, m0, ?_⟩⟩
        refine ⟨_, rfl, b, _, _, _, rfl, rfl, SqL.of hb1, rfl, _, rfl, _, _, rfl, rfl, ⟨m0, small_log m0 m1⟩, _, rfl, b, _, _, _, rfl, rfl, hb1, rfl, ?_⟩
        refine ⟨_, rfl, ?_⟩
        exact k _ _ ⟨_, _, _, _, cs, upd_same, (upd_ne nbc.symm).trans hc1, i0', Int.ediv_nonneg p0' (by omega), s0', s1', by omega⟩ (fun a o h1 h2 => (upd_ne h1).trans (f1 a o h1 h2)) (Int.emod_nonneg _ (by omega)) (Int.emod_lt_of_pos _ m0)
      · refine ⟨_, rfl, b, _, _, _, rfl, rfl, SqL.of hb1, rfl, _, rfl, b, _, _, _, rfl, rfl, SqL.of hb1, rfl, _, _, rfl, rfl, .inr ⟨by decide, by decide⟩, _, _, rfl, rfl, .inl ⟨_, rfl, _, _, rfl, rfl, (by decide : (0 : Int) < 2147483647), ?_⟩⟩
        have j0 := Int.emod_nonneg (sd' + (n + 1) * 1299709) (by decide : (2147483647 : Int) ≠ 0)
        have j1 := Int.emod_lt_of_pos (sd' + (n + 1) * 1299709) (by decide : (0 : Int) < 2147483647)
        refine ⟨_, rfl, _, _, rfl, rfl, ⟨by decide, by decide, by omega⟩, .inl ⟨_, rfl, _, _, rfl, rfl, (by decide : (0 : Int) < 2147483647), ?_⟩⟩
        refine ⟨_, rfl, _, _, rfl, rfl, ⟨by decide, by decide⟩, .inl ⟨_, rfl, _, rfl, _, _, rfl, rfl, m0, ?_⟩⟩
        exact k _ _ ⟨_, _, _, _, cs, hb1, hc1, i0', p0', s0', s1', by omega⟩ f1 (Int.emod_nonneg _ (by omega)) (Int.emod_lt_of_pos _ m0)
end
end K02

set_option Elab.async false
set_option linter.all false
set_option maxRecDepth 100000
set_option maxHeartbeats 4000000
namespace K02
open PySem L2 OW TL
theorem Box.write {b c l : Addr} {H : Hp} {o : HO} (h : Box b c H) (hb : l ≠ b) (hc : l ≠ c) : Box b c (upd H l o) := by
  obtain ⟨i, p, sd, n, cs, h1, h2, r⟩ := h
  exact ⟨i, p, sd, n, cs, (upd_ne hb.symm).trans h1, (upd_ne hc.symm).trans h2, r⟩
theorem Box.nb {b c l : Addr} {H : Hp} (h : Box b c H) (n : H l = none) : l ≠ b := by
  obtain ⟨i, p, sd, n', cs, h1, h2, r⟩ := h
  exact (ne_of_none h1 n).symm
theorem Box.nc {b c l : Addr} {H : Hp} (h : Box b c H) (n : H l = none) : l ≠ c := by
  obtain ⟨i, p, sd, n', cs, h1, h2, r⟩ := h
  exact (ne_of_none h2 n).symm
theorem FrB.new {b l : Addr} {H H' : Hp} {o : HO} (f : FrB b H H') (n : H l = none) : FrB b H (upd H' l o) := fun a u h1 h2 => (upd_ne (ne_of_none h2 n)).trans (f a u h1 h2)
def spOf : Sp := fun vs H Q _ => ∃ (b c a : Addr) (xs : List V), vs = [.ref b, .ref a] ∧ Box b c H ∧ a ≠ b ∧ H a = some (.lst xs) ∧ 0 < xs.length ∧ xs.length ≤ 1000 ∧
  ∀ (H' : Hp) (v : V), Box b c H' → FrB b H H' → v ∈ xs → Q v H'
def spPick : Sp := fun vs H Q _ => ∃ (b c a : Addr) (xs : List V) (n : Nat), vs = [.ref b, .ref a, .int n] ∧ Box b c H ∧ a ≠ b ∧ H a = some (.lst xs) ∧ n ≤ xs.length ∧ xs.length ≤ 1000 ∧
  ∀ (H' : Hp) (m : Addr) (ys : List V), Box b c H' → FrB b H H' → H m = none → H' m = some (.lst ys) → ys.length = n → (∃ rest, (ys ++ rest).Perm xs) → Q (.ref m) H'
def spGreat : Sp := fun vs H Q _ => ∃ (b c : Addr), vs = [.ref b, .int 6] ∧ Box b c H ∧ ∀ (H' : Hp) (z : Int), Box b c H' → FrB b H H' → Q (.int z) H'
def spBag (K : PySem.W.Frag) : Sp := fun vs H Q _ => ∃ (a : Addr) (ns : List Int), vs = [.ref a] ∧ SqL K H a (ns.map V.int) ∧ ns.length ≤ 63 ∧ ∀ (H' : Hp) (b c : Addr), Same H H' → H b = none → Box b c H' → Q (.ref b) H'
def spLike : Sp := fun vs H Q _ => ((∃ x : Bool, vs = [.bl x, .bl x]) ∨ ∃ x : Int, vs = [.int x, .int x]) ∧ Q (.bl true) H
def wordOf (b : Str) (o : Int) : Str := if okAt b o = true then wd b o else ""
def spWord : Sp := fun vs H Q _ => ∃ (b : Str) (o : Int), vs = [.str b, .int o] ∧ b.length ≤ 100 ∧ Q (.str (wordOf b o)) H
theorem erase_perm {α : Type} : ∀ {l : List α} {i : Nat} (h : i < l.length), (l[i] :: l.eraseIdx i).Perm l
  | x :: l, 0, _ => List.Perm.refl _
  | x :: l, i + 1, h => by
    have h' : i < l.length := Nat.lt_of_succ_lt_succ h
    have ih := erase_perm h'
    show (l[i] :: x :: l.eraseIdx i).Perm (x :: l)
    exact (List.Perm.swap _ _ _).trans (ih.cons x)
section
variable {P : Program} {w : World} {K : PySem.W.Frag} {mg : Str → Option Value} {base : Heap}
theorem ok_law_of (T : Txt K w mg) : FnOk P w K mg base CX0 2 T.a_law_of T.d_law_of ["bag", "menu"] spOf := by
  refine T.f_law_of.ok sc_law_of (fun vs H Q E h => ?_) (fun cdv A outer s H vs Q E hr h => ?_)
  · obtain ⟨b, c, a, xs, rfl, _⟩ := h
    rfl
  · obtain ⟨b, c, a, xs, rfl, hB, nab, ha, l0, l1, k⟩ := h
    refine ⟨_, (pss_one (ps_ret (pe_ix ix_list (pv 1) (pe_call (ok_law_draw T) (hr.mono (by decide)) rfl T.g_law_draw T.f_law_draw.kp T.b_law_draw .nil pass0 (pa_cons (pv 0) (pa_cons (pe_callB call_len_seq (by rfl) T.n_len (by decide +kernel) (pa_cons (pv 1) pa_nil)) pa_nil))) (fun _ _ => rfl)))), ?_⟩
    refine ⟨_, rfl, _, rfl, _, rfl, a, _, rfl, .inl (SqL.of ha), b, c, _, rfl, hB, by omega, by omega, fun H' t hB' hf t0 t1 => ?_⟩
    have ha' := hf a _ nab ha
    have hlt : t.toNat < xs.length := by omega
    have hx : xs[t.toNat]? = some xs[t.toNat] := List.getElem?_eq_getElem hlt
    refine ⟨a, xs, t, xs[t.toNat], rfl, rfl, SqL.of ha', ?_, k _ _ hB' hf (List.getElem_mem hlt)⟩
    exact at_of (by omega) hx
theorem ok_law_pick (T : Txt K w mg) : FnOk P w K mg base CX0 2 T.a_law_pick T.d_law_pick ["bag", "menu", "many"] spPick := by
  refine T.f_law_pick.ok sc_law_pick (fun vs H Q E h => ?_) (fun cdv A outer s H vs Q E hr h => ?_)
  · obtain ⟨b, c, a, xs, n, rfl, _⟩ := h
    rfl
  · obtain ⟨b, c, a, xs, n, rfl, hB, nab, ha, hn, l1, k⟩ := h
    refine ⟨_, (pss_cons (ps_par (i := 4) (j := 5) (by rfl) sc_law_pick.nd rfl rfl (by decide) rfl rfl (pa_cons (pe_callTy call_list_of (by rfl) T.n_list (by decide +kernel) (pa_cons (pv 1) pa_nil)) (pa_cons (pe_lst pa_nil) pa_nil)) (by rfl))
    (Evl.pss_cut (ps_for PassesOwn.never rfl (pi_range1 rfl T.n_range (pa_cons (pv 2) pa_nil)) (pg_name (i := 3) sc_law_pick.nd rfl (by first | exact Or.inl rfl | exact Or.inr rfl))
      (pss_one (ps_expr (pe_bm PySem.F.plainAttrs_list PySem.F.slot_list_append PySem.F.type_list_append mt_append (pv 5) (pa_cons (pe_bm PySem.F.plainAttrs_list PySem.F.slot_list_pop PySem.F.type_list_pop mt_popAt (pv 4) (pa_cons (pe_call (ok_law_draw T) (hr.mono (by decide)) rfl T.g_law_draw T.f_law_draw.kp T.b_law_draw .nil pass0 (pa_cons (pv 0) (pa_cons (pe_callB call_len_seq (by rfl) T.n_len (by decide +kernel) (pa_cons (pv 4) pa_nil)) pa_nil))) pa_nil)) pa_nil)))))
    (pss_one (ps_ret (pv 5))))), ?_⟩
    refine ⟨_, rfl, a, _, rfl, .inl (SqL.of ha), fun l hl => ⟨by decide, fun m hm => ⟨_, _, rfl, ?_⟩⟩⟩
    have nml : l ≠ m := ne_of_none (upd_same (H := H) (a := l) (o := .lst xs)) hm
    have hm0 : H m = none := (OW.Same.upd_new (o := .lst xs) (Same.refl H) hl).free hm
    let Pv : Nat → L2.St → Hp → Prop := fun i σ H' => (∃ q, σ = [some (.ref b), some (.ref a), some (.int n), q, some (.ref l), some (.ref m)]) ∧ Box b c H' ∧ FrB b H H' ∧ ∃ left made : List V, H' l = some (.lst left) ∧ H' m = some (.lst made) ∧ made.length = i ∧ (made ++ left).Perm xs
    refine ⟨Pv n, ⟨_, rfl, (n : Int), rfl, by omega, by omega, for_range (lo := 0) (n := n) Pv ?_ ?_ (fun σ H' z => z)⟩, ?_⟩
    · exact ⟨⟨_, rfl⟩, (hB.write (hB.nb hl) (hB.nc hl)).write (hB.nb hm0) (hB.nc hm0), ((FrB.refl b H).new hl).new hm0, xs, [], (upd_ne nml).trans upd_same, upd_same, rfl, List.Perm.refl _⟩
    · rintro i σ H1 hi ⟨⟨q, rfl⟩, hB1, f1, left, made, h1, h2, h3, h4⟩
      have hlen := h4.length_eq
      rw [List.length_append] at hlen
      refine ⟨_, rfl, .inl ⟨rfl, _, SqL.of h2⟩, _, rfl, .inl ⟨rfl, _, SqL.of h1⟩, _, rfl, _, rfl, l, _, rfl, .inl (SqL.of h1), b, c, _, rfl, hB1, by omega, by omega, fun H2 t hB2 f2 t0 t1 => ?_⟩
      have h1' := f2 _ _ (hB.nb hl) h1
      have h2' := f2 _ _ (hB.nb hm0) h2
      have hlt : t.toNat < left.length := by omega
      have hx : left[t.toNat]? = some left[t.toNat] := List.getElem?_eq_getElem hlt
      refine ⟨l, left, t, t.toNat, _, rfl, rfl, h1', by omega, by omega, PySem.seqIndex_of t0 t1, hx, ?_⟩
      refine ⟨m, made, _, rfl, rfl, (upd_ne nml.symm).trans h2', small1000 (by omega), ?_⟩
      refine ⟨⟨_, rfl⟩, (hB2.write (hB.nb hl) (hB.nc hl)).write (hB.nb hm0) (hB.nc hm0), ((f1.trans f2).new hl).new hm0, left.eraseIdx t.toNat, made ++ [left[t.toNat]], (upd_ne nml).trans upd_same, upd_same, by rw [List.length_append, h3]; rfl, ?_⟩
      rw [List.append_assoc]
      exact ((erase_perm hlt).append_left made).trans h4
    · rintro σ H1 ⟨⟨q, rfl⟩, hB1, f1, left, made, h1, h2, h3, h4⟩
      exact ⟨_, rfl, k _ _ _ hB1 f1 hm0 h2 h3 ⟨left, h4⟩⟩
theorem ok_law_great (T : Txt K w mg) : FnOk P w K mg base CX0 2 T.a_law_great T.d_law_great ["bag", "parts"] spGreat := by
  refine T.f_law_great.ok sc_law_great (fun vs H Q E h => ?_) (fun cdv A outer s H vs Q E hr h => ?_)
  · obtain ⟨b, c, rfl, _⟩ := h
    rfl
  · obtain ⟨b, c, rfl, hB, k⟩ := h
    refine ⟨_, (pss_cons (ps_set (i := 2) sc_law_great.nd rfl (by first | exact Or.inl rfl | exact Or.inr rfl) pe_int)
    (Evl.pss_cut (ps_for PassesOwn.never rfl (pi_range1 rfl T.n_range (pa_cons (pv 1) pa_nil)) (pg_name (i := 3) sc_law_great.nd rfl (by first | exact Or.inl rfl | exact Or.inr rfl))
      (pss_one (ps_set (i := 2) sc_law_great.nd rfl (by first | exact Or.inl rfl | exact Or.inr rfl) (pe_op op_add (pe_op op_mul (pv 2) pe_int) (pe_call (ok_law_draw T) (hr.mono (by decide)) rfl T.g_law_draw T.f_law_draw.kp T.b_law_draw .nil pass0 (pa_cons (pv 0) (pa_cons pe_int pa_nil)))))))
    (pss_one (ps_ret (pv 2))))), ?_⟩
    let Pv : Nat → L2.St → Hp → Prop := fun i σ H' => (∃ q z, σ = [some (.ref b), some (.int 6), some (.int z), q]) ∧ Box b c H' ∧ FrB b H H'
    refine ⟨Pv 6, ⟨_, rfl, (6 : Int), rfl, by decide, by decide, for_range (lo := 0) (n := 6) Pv ⟨⟨_, _, rfl⟩, hB, FrB.refl b H⟩ ?_ (fun σ H' z => z)⟩, ?_⟩
    · rintro i σ H1 hi ⟨⟨q, z, rfl⟩, hB1, f1⟩
      refine ⟨_, rfl, _, _, rfl, rfl, .inr ⟨by decide, by decide⟩, _, rfl, b, c, _, rfl, hB1, by decide, by decide, fun H2 t hB2 f2 t0 t1 => ?_⟩
      exact ⟨_, _, rfl, rfl, ⟨_, _, rfl⟩, hB2, f1.trans f2⟩
    · rintro σ H1 ⟨⟨q, z, rfl⟩, hB1, f1⟩
      exact ⟨_, rfl, k _ _ hB1 f1⟩
theorem ok_law_like (T : Txt K w mg) : FnOk P w K mg base CX0 1 T.a_law_like T.d_law_like ["told", "due"] spLike := by
  refine T.f_law_like.ok sc_law_like (fun vs H Q E h => ?_) (fun cdv A outer s H vs Q E hr h => ?_)
  · obtain ⟨⟨x, rfl⟩ | ⟨x, rfl⟩, _⟩ := h
    · rfl
    · rfl
  · obtain ⟨h, k⟩ := h
    refine ⟨_, (pss_cons (ps_if (pt_val (pe_callB call_isi (by rfl) T.n_isinstance (by decide +kernel) (pa_cons (pv 1) (pa_cons (pe_bltn (v := .ty "bool") (u := .type "bool") (by rfl) T.n_bool (by decide +kernel) rfl) pa_nil))))
      (pss_one (ps_ret (pe_and (pe_callB call_isi (by rfl) T.n_isinstance (by decide +kernel) (pa_cons (pv 0) (pa_cons (pe_bltn (v := .ty "bool") (u := .type "bool") (by rfl) T.n_bool (by decide +kernel) rfl) pa_nil))) (pe_one (pe_cmpR op_eq (pv 0) (pv 1) (nomark _))))))
      pss_nil)
    (pss_cons (ps_if (pt_val (pe_callB call_isi (by rfl) T.n_isinstance (by decide +kernel) (pa_cons (pv 1) (pa_cons (pe_bltn (v := .ty "int") (u := .type "int") (by rfl) T.n_int (by decide +kernel) rfl) pa_nil))))
      (pss_one (ps_ret (pe_and (pe_callB call_isi (by rfl) T.n_isinstance (by decide +kernel) (pa_cons (pv 0) (pa_cons (pe_bltn (v := .ty "int") (u := .type "int") (by rfl) T.n_int (by decide +kernel) rfl) pa_nil))) (pe_and (pe_not (pe_callB call_isi (by rfl) T.n_isinstance (by decide +kernel) (pa_cons (pv 0) (pa_cons (pe_bltn (v := .ty "bool") (u := .type "bool") (by rfl) T.n_bool (by decide +kernel) rfl) pa_nil)))) (pe_one (pe_cmpR op_eq (pv 0) (pv 1) (nomark _)))))))
      pss_nil)
    pss_never)), ?_⟩
    rcases h with ⟨x, rfl⟩ | ⟨x, rfl⟩
    · refine ⟨_, rfl, .bl x, .ty "bool", .type "bool", .type "bool", true, rfl, .ty _, .base (.bl x), rfl, _, rfl, ?_⟩
      refine ⟨_, rfl, .bl x, .ty "bool", .type "bool", .type "bool", true, rfl, .ty _, .base (.bl x), rfl, _, rfl, _, rfl, _, rfl, rfl, ?_⟩
      rw [decide_eq_true rfl]
      exact k
    · refine ⟨_, rfl, .int x, .ty "bool", .type "int", .type "bool", false, rfl, .ty _, .base (.int x), rfl, _, rfl, ?_⟩
      refine ⟨_, rfl, .int x, .ty "int", .type "int", .type "int", true, rfl, .ty _, .base (.int x), rfl, _, rfl, ?_⟩
      refine ⟨_, rfl, .int x, .ty "int", .type "int", .type "int", true, rfl, .ty _, .base (.int x), rfl, _, rfl, ?_⟩
      refine ⟨_, rfl, .int x, .ty "bool", .type "int", .type "bool", false, rfl, .ty _, .base (.int x), rfl, _, rfl, _, rfl, _, rfl, _, rfl, rfl, ?_⟩
      rw [decide_eq_true rfl]
      exact k
end
end K02

set_option Elab.async false
set_option linter.all false
set_option maxRecDepth 100000
set_option maxHeartbeats 4000000
namespace K02
open PySem L2 OW TL
/-! ### what the law's texts say -/
def bases : List Str := ["0", "$", "i", "k", "p", "y9", "one1", "w"]
theorem mem_offs {o : Int} (h : okAt b o = true) : o ∈ offs := by
  unfold okAt at h
  have h1 := of_decide_eq_true (Bool.and_eq_true_iff.mp h).1
  have h2 := of_decide_eq_true (Bool.and_eq_true_iff.mp (Bool.and_eq_true_iff.mp h).2).1
  unfold offs
  refine List.mem_map.mpr ⟨(o + 200).toNat, List.mem_range.mpr (by omega), by omega⟩
theorem ok_abs {b : Str} {o : Int} (h : okAt b o = true) : absI o ≤ 200 := by
  unfold okAt at h
  have h1 := of_decide_eq_true (Bool.and_eq_true_iff.mp h).1
  have h2 := of_decide_eq_true (Bool.and_eq_true_iff.mp (Bool.and_eq_true_iff.mp h).2).1
  unfold absI
  split <;> omega
theorem facts {b : Str} {o : Int} (hb : b ∈ bases) (h : okAt b o = true) : splitPlace (wd b o) = some (b, o) ∧ ¬ wd b o ∈ sRanges ∧ ¬ (32 ∈ tl (wd b o)) ∧ (wd b o).length ≤ 10 ∧ 0 < (wd b o).length := by
  have go : ∀ b' : Str, (offs.all fun o => factB b' o) = true → okAt b' o = true → splitPlace (wd b' o) = some (b', o) ∧ ¬ wd b' o ∈ sRanges ∧ ¬ (32 ∈ tl (wd b' o)) ∧ (wd b' o).length ≤ 10 ∧ 0 < (wd b' o).length := fun b' q h => by
    have z := List.all_eq_true.mp q o (mem_offs h)
    unfold factB at z
    rw [h, Bool.not_true, Bool.false_or] at z
    obtain ⟨z1, z⟩ := Bool.and_eq_true_iff.mp z
    obtain ⟨z2, z⟩ := Bool.and_eq_true_iff.mp z
    obtain ⟨z3, z⟩ := Bool.and_eq_true_iff.mp z
    obtain ⟨z4, z5⟩ := Bool.and_eq_true_iff.mp z
    exact ⟨of_decide_eq_true z1, of_decide_eq_true z2, of_decide_eq_true z3, of_decide_eq_true z4, of_decide_eq_true z5⟩
  simp only [bases, List.mem_cons, List.not_mem_nil, or_false] at hb
  rcases hb with rfl | rfl | rfl | rfl | rfl | rfl | rfl | rfl
  · exact go _ fact1 h
  · exact go _ fact2 h
  · exact go _ fact3 h
  · exact go _ fact4 h
  · exact go _ fact5 h
  · exact go _ fact6 h
  · exact go _ fact7 h
  · exact go _ fact8 h
theorem split3 {a b c : Str} (ha : ¬ 32 ∈ tl a) (hb : ¬ 32 ∈ tl b) (hc : ¬ 32 ∈ tl c) {m : Str} (hm : tl m = 32 :: (tl b ++ [32])) : Txt.split (a ++ m ++ c) " " = [a, b, c] := by
  have e : a ++ m ++ c = Txt.join " " [a, b, c] := by
    rw [join_eq]
    refine ext_tl ?_
    rw [tl_join, tl_append, tl_append, hm]
    show tl a ++ (32 :: (tl b ++ [32])) ++ tl c = tl a ++ ([32] ++ (tl b ++ ([32] ++ tl c)))
    simp
  rw [e]
  exact split_join (s := 32) (S := []) (by decide +kernel) (by decide +kernel) (by simp) fun p hp => by
    simp only [List.mem_cons, List.not_mem_nil, or_false] at hp
    rcases hp with rfl | rfl | rfl
    · exact ha
    · exact hb
    · exact hc
/-- the sign within blanks -/
def Mid (sg m : Str) : Prop := tl m = 32 :: (tl sg ++ [32]) ∧ m.length ≤ 10
theorem no_blank : ∀ sg ∈ signs, ¬ 32 ∈ tl sg := by decide +kernel
theorem bases_ranges : ∀ b ∈ bases, ¬ b ∈ sRanges := by decide +kernel
theorem ranges_blank : ∀ b ∈ sRanges, ¬ 32 ∈ tl b ∧ b.length ≤ 10 := by decide +kernel
structure PairOk (rs : List Str) (u v : Str) : Prop where
  sub : ∀ r ∈ rs, r ∈ sRanges
  hu : u ∈ bases
  hv : v ∈ bases
  ne : u ≠ v
  nb : ¬ (u ∈ ends ∧ v ∈ ends)
theorem PairOk.symm {rs : List Str} {u v : Str} (h : PairOk rs u v) : PairOk rs v u := ⟨h.sub, h.hv, h.hu, h.ne.symm, fun z => h.nb ⟨z.2, z.1⟩⟩
theorem reads_pair {rs : List Str} {u v sg m : Str} {a b : Int} (h : PairOk rs u v) (hs : sg ∈ signs) (hm : Mid sg m) (oa : okAt u a = true) (ob : okAt v b = true) : Reads rs (wd u a ++ m ++ wd v b) sg ((u, a), (v, b)) := by
  obtain ⟨a1, a2, a3, a4, a5⟩ := facts h.hu oa
  obtain ⟨b1, b2, b3, b4, b5⟩ := facts h.hv ob
  have na : ∀ r : Str, ¬ r ∈ sRanges → ¬ r ∈ rs := fun r z q => z (h.sub r q)
  refine ⟨wd u a, wd v b, split3 a3 (no_blank sg hs) b3 hm.1, ?_, by omega, by omega, hs, ?_, ok_abs oa, ok_abs ob⟩
  · have := hm.2
    rw [strLen_append, strLen_append]
    omega
  · unfold csides
    rw [if_neg (na _ a2)]
    unfold psides
    rw [a1, b1]
    show (if u = v ∨ u ∈ rs ∨ v ∈ rs ∨ (u ∈ ends ∧ v ∈ ends) then none else some ((u, a), (v, b))) = _
    rw [if_neg]
    rintro (z | z | z | z)
    · exact h.ne z
    · exact na _ (bases_ranges u h.hu) z
    · exact na _ (bases_ranges v h.hv) z
    · exact h.nb z
/-- the text t says of U - V what f says, and costs so much -/
def Says (rs : List Str) (U V : Str) (t : Str) (cost : Int) (f : Int → Bool) : Prop := ∃ sg p, Reads rs t sg p ∧ costOf sg p = cost ∧
  ((p.1.1 = U ∧ p.2.1 = V ∧ ∀ x y : Int, cmpB (x + p.1.2) sg (y + p.2.2) = f (x - y)) ∨ (p.1.1 = V ∧ p.2.1 = U ∧ ∀ x y : Int, cmpB (y + p.1.2) sg (x + p.2.2) = f (x - y)))
theorem word_ok {b : Str} {o : Int} (h : (((wordOf b o).length : Int) != 0) = true) : okAt b o = true ∧ wordOf b o = wd b o := by
  unfold wordOf at h ⊢
  by_cases e : okAt b o = true
  · rw [if_pos e]
    exact ⟨e, rfl⟩
  · rw [if_neg e] at h
    cases h
theorem word_len {b : Str} {o : Int} (hb : b ∈ bases) : (wordOf b o).length ≤ 10 := by
  unfold wordOf
  by_cases e : okAt b o = true
  · rw [if_pos e]
    exact (facts hb e).2.2.2.1
  · rw [if_neg e]
    exact Nat.zero_le _
theorem dec_congr {p q : Prop} [Decidable p] [Decidable q] (h : p ↔ q) : decide p = decide q := by
  by_cases e : p
  · rw [decide_eq_true e, decide_eq_true (h.mp e)]
  · rw [decide_eq_false e, decide_eq_false (fun z => e (h.mpr z))]
section
variable {rs : List Str} {u v : Str} {c a b : Int} (h : PairOk rs u v) (oa : okAt u a = true) (ob : okAt v b = true)
include h oa ob
theorem says_le (e : b = a + c) : Says rs u v (wd u a ++ " <= " ++ wd v b) (minI (absI c) (absI (c + 1))) (fun g => decide (g ≤ c)) := by
  refine ⟨"<=", _, reads_pair h (by decide +kernel) ⟨by decide +kernel, by decide +kernel⟩ oa ob, ?_, .inl ⟨rfl, rfl, fun x y => ?_⟩⟩
  · show minI (absI (b - a)) (absI (b - a + 1)) = _
    rw [show b - a = c by omega]
  · show decide (x + a ≤ y + b) = decide (x - y ≤ c)
    exact dec_congr (by omega)
theorem says_lt (e : b = a + c + 1) : Says rs u v (wd u a ++ " < " ++ wd v b) (minI (absI c) (absI (c + 1))) (fun g => decide (g ≤ c)) := by
  refine ⟨"<", _, reads_pair h (by decide +kernel) ⟨by decide +kernel, by decide +kernel⟩ oa ob, ?_, .inl ⟨rfl, rfl, fun x y => ?_⟩⟩
  · show minI (absI (b - a - 1)) (absI (b - a - 1 + 1)) = _
    rw [show b - a - 1 = c by omega]
  · show decide (x + a < y + b) = decide (x - y ≤ c)
    exact dec_congr (by omega)
theorem says_ge (e : b = a + c) : Says rs u v (wd v b ++ " >= " ++ wd u a) (minI (absI c) (absI (c + 1))) (fun g => decide (g ≤ c)) := by
  refine ⟨">=", _, reads_pair h.symm (by decide +kernel) ⟨by decide +kernel, by decide +kernel⟩ ob oa, ?_, .inr ⟨rfl, rfl, fun x y => ?_⟩⟩
  · show minI (absI (-(a - b))) (absI (-(a - b) + 1)) = _
    rw [show -(a - b) = c by omega]
  · show decide (x + a ≤ y + b) = decide (x - y ≤ c)
    exact dec_congr (by omega)
theorem says_gt (e : b = a + c + 1) : Says rs u v (wd v b ++ " > " ++ wd u a) (minI (absI c) (absI (c + 1))) (fun g => decide (g ≤ c)) := by
  refine ⟨">", _, reads_pair h.symm (by decide +kernel) ⟨by decide +kernel, by decide +kernel⟩ ob oa, ?_, .inr ⟨rfl, rfl, fun x y => ?_⟩⟩
  · show minI (absI (-(a - b) - 1)) (absI (-(a - b) - 1 + 1)) = _
    rw [show -(a - b) - 1 = c by omega]
  · show decide (x + a < y + b) = decide (x - y ≤ c)
    exact dec_congr (by omega)
theorem says_eq (e : b = a + c) : Says rs u v (wd u a ++ " = " ++ wd v b) (absI c) (fun g => decide (g = c)) := by
  refine ⟨"=", _, reads_pair h (by decide +kernel) ⟨by decide +kernel, by decide +kernel⟩ oa ob, ?_, .inl ⟨rfl, rfl, fun x y => ?_⟩⟩
  · show absI (b - a) = _
    rw [show b - a = c by omega]
  · show decide (x + a = y + b) = decide (x - y = c)
    exact dec_congr (by omega)
theorem says_eq2 (e : b = a + c) : Says rs u v (wd v b ++ " = " ++ wd u a) (absI c) (fun g => decide (g = c)) := by
  refine ⟨"=", _, reads_pair h.symm (by decide +kernel) ⟨by decide +kernel, by decide +kernel⟩ ob oa, ?_, .inr ⟨rfl, rfl, fun x y => ?_⟩⟩
  · show absI (a - b) = _
    rw [show a - b = -c by omega]
    unfold absI
    split <;> split <;> omega
  · show decide (y + b = x + a) = decide (x - y = c)
    exact dec_congr (by omega)
theorem says_more (e : b = a + c) : Says rs u v (wd u a ++ " >= " ++ wd v b) (minI (absI c) (absI (c - 1))) (fun g => decide (g ≥ c)) := by
  refine ⟨">=", _, reads_pair h (by decide +kernel) ⟨by decide +kernel, by decide +kernel⟩ oa ob, ?_, .inl ⟨rfl, rfl, fun x y => ?_⟩⟩
  · show minI (absI (-(b - a))) (absI (-(b - a) + 1)) = _
    rw [show -(b - a) = -c by omega]
    unfold minI absI
    repeat' split
    all_goals omega
  · show decide (y + b ≤ x + a) = decide (x - y ≥ c)
    exact dec_congr (by omega)
end
/-! ### sizes -/
def factN (n : Nat) : Bool := isCount (toString (n : Int)) && (decide (intText? (toString (n : Int)) = some (n : Int)) && (decide (¬ 32 ∈ tl (toString (n : Int))) && decide ((toString (n : Int) : Str).length ≤ 10)))
theorem factsN : ((List.range 201).all factN) = true := by decide +kernel
theorem num_ok {n : Int} (h0 : 0 ≤ n) (h1 : n ≤ 200) : isCount (toString n) = true ∧ intText? (toString n) = some n ∧ ¬ 32 ∈ tl (toString n) ∧ (toString n : Str).length ≤ 10 := by
  obtain ⟨k, rfl⟩ := Int.eq_ofNat_of_zero_le h0
  have z := List.all_eq_true.mp factsN k (List.mem_range.mpr (by omega))
  unfold factN at z
  obtain ⟨z1, z⟩ := Bool.and_eq_true_iff.mp z
  obtain ⟨z2, z⟩ := Bool.and_eq_true_iff.mp z
  obtain ⟨z3, z4⟩ := Bool.and_eq_true_iff.mp z
  exact ⟨z1, of_decide_eq_true z2, of_decide_eq_true z3, of_decide_eq_true z4⟩
theorem reads_size {rs : List Str} {r sg m : Str} {n : Int} (hr : r ∈ rs) (sub : ∀ r ∈ rs, r ∈ sRanges) (hs : sg ∈ signs) (hm : Mid sg m) (h0 : 0 ≤ n) (h1 : n ≤ 200) : Reads rs (r ++ m ++ toString n) sg (("$", 1), ("0", n)) := by
  obtain ⟨b1, b2, b3, b4⟩ := num_ok h0 h1
  obtain ⟨a1, a2⟩ := ranges_blank r (sub r hr)
  refine ⟨r, toString n, split3 a1 (no_blank sg hs) b3 hm.1, ?_, by omega, by omega, hs, ?_, (by show absI 1 ≤ 200; decide), ?_⟩
  · have := hm.2
    rw [strLen_append, strLen_append]
    omega
  · unfold csides
    rw [if_pos hr, if_pos b1, b2]
    rfl
  · show absI n ≤ 200
    unfold absI
    split <;> omega
section
variable {rs : List Str} {r : Str} {c : Int} (hr : r ∈ rs) (sub : ∀ r ∈ rs, r ∈ sRanges)
include hr sub
theorem size_ge (h0 : 0 ≤ 1 - c) (h1 : 1 - c ≤ 200) : Says rs "$" "0" (r ++ " >= " ++ toString (1 - c)) (minI (absI c) (absI (c + 1))) (fun g => decide (g + c ≥ 0)) := by
  refine ⟨">=", _, reads_size hr sub (by decide +kernel) ⟨by decide +kernel, by decide +kernel⟩ h0 h1, ?_, .inl ⟨rfl, rfl, fun x y => ?_⟩⟩
  · show minI (absI (-(1 - c - 1))) (absI (-(1 - c - 1) + 1)) = _
    rw [show -(1 - c - 1) = c by omega]
  · show decide (y + (1 - c) ≤ x + 1) = decide (x - y + c ≥ 0)
    exact dec_congr (by omega)
theorem size_gt (h0 : 0 ≤ 0 - c) (h1 : 0 - c ≤ 200) : Says rs "$" "0" (r ++ " > " ++ toString (0 - c)) (minI (absI c) (absI (c + 1))) (fun g => decide (g + c ≥ 0)) := by
  refine ⟨">", _, reads_size hr sub (by decide +kernel) ⟨by decide +kernel, by decide +kernel⟩ h0 h1, ?_, .inl ⟨rfl, rfl, fun x y => ?_⟩⟩
  · show minI (absI (-(0 - c - 1) - 1)) (absI (-(0 - c - 1) - 1 + 1)) = _
    rw [show -(0 - c - 1) - 1 = c by omega]
  · show decide (y + (0 - c) < x + 1) = decide (x - y + c ≥ 0)
    exact dec_congr (by omega)
theorem size_le (h0 : 0 ≤ 0 - c) (h1 : 0 - c ≤ 200) : Says rs "$" "0" (r ++ " <= " ++ toString (0 - c)) (minI (absI c) (absI (c + 1))) (fun g => !decide (g + c ≥ 0)) := by
  refine ⟨"<=", _, reads_size hr sub (by decide +kernel) ⟨by decide +kernel, by decide +kernel⟩ h0 h1, ?_, .inl ⟨rfl, rfl, fun x y => ?_⟩⟩
  · show minI (absI (0 - c - 1)) (absI (0 - c - 1 + 1)) = _
    unfold minI absI
    repeat' split
    all_goals omega
  · show decide (x + 1 ≤ y + (0 - c)) = !decide (x - y + c ≥ 0)
    rw [← decide_not]
    exact dec_congr (by omega)
theorem size_lt (h0 : 0 ≤ 1 - c) (h1 : 1 - c ≤ 200) : Says rs "$" "0" (r ++ " < " ++ toString (1 - c)) (minI (absI c) (absI (c + 1))) (fun g => !decide (g + c ≥ 0)) := by
  refine ⟨"<", _, reads_size hr sub (by decide +kernel) ⟨by decide +kernel, by decide +kernel⟩ h0 h1, ?_, .inl ⟨rfl, rfl, fun x y => ?_⟩⟩
  · show minI (absI (1 - c - 1 - 1)) (absI (1 - c - 1 - 1 + 1)) = _
    unfold minI absI
    repeat' split
    all_goals omega
  · show decide (x + 1 < y + (1 - c)) = !decide (x - y + c ≥ 0)
    rw [← decide_not]
    exact dec_congr (by omega)
theorem size_eq (h0 : 0 ≤ 1 - c) (h1 : 1 - c ≤ 200) : Says rs "$" "0" (r ++ " = " ++ toString (1 - c)) (absI c) (fun g => decide (g + 1 = 1 - c)) := by
  refine ⟨"=", _, reads_size hr sub (by decide +kernel) ⟨by decide +kernel, by decide +kernel⟩ h0 h1, ?_, .inl ⟨rfl, rfl, fun x y => ?_⟩⟩
  · show absI (1 - c - 1) = _
    unfold absI
    split <;> split <;> omega
  · show decide (x + 1 = y + (1 - c)) = decide (x - y + 1 = 1 - c)
    exact dec_congr (by omega)
end
end K02

set_option Elab.async false
set_option linter.all false
set_option maxRecDepth 100000
set_option maxHeartbeats 4000000
namespace K02
open PySem L2 OW TL
def spGap (K : PySem.W.Frag) : Sp := fun vs H Q _ => ∃ (u v : Str) (d : Addr) (kvs : List (Key × V)) (last n m : Int), vs = [.str u, .str v, .ref d, .int last] ∧ H d = some (.dK kvs) ∧ At u kvs last n ∧ At v kvs last m ∧ Q (.int (n - m)) H
def spSizeW (K : PySem.W.Frag) (f : Int → Int → Bool) : Sp := fun vs H Q _ => ∃ (r : Str) (c : Int) (rs : List Str), vs = [.str r, .int c] ∧ r ∈ rs ∧ (∀ r ∈ rs, r ∈ sRanges) ∧ absI c ≤ 1000 ∧
  ∀ (H' : Hp) (m : Addr) (ts : List Str), Same H H' → H' m = some (.lst (ts.map V.str)) → ts.length ≤ 200 → (∀ t ∈ ts, Says rs "$" "0" t (minI (absI c) (absI (c + 1))) (f c)) → Q (.ref m) H'
theorem ok_iff {b : Str} {o : Int} : okAt b o = true ↔ (absI o ≤ 200 ∧ ¬ (b = "0" ∧ o < 0) ∧ ¬ (b = "$" ∧ 0 < o)) := by
  unfold okAt absI
  rw [Bool.and_eq_true_iff, Bool.and_eq_true_iff, decide_eq_true_iff, decide_eq_true_iff]
  have ne : ¬ (("0" : Str) = "$") := by decide +kernel
  by_cases h0 : b = "0"
  · rw [if_pos h0, decide_eq_true_iff]
    subst h0
    constructor
    · rintro ⟨h1, h2, h3⟩
      refine ⟨by split <;> omega, fun q => by omega, fun q => ne q.1⟩
    · rintro ⟨h1, h2, h3⟩
      have : ¬ o < 0 := fun q => h2 ⟨rfl, q⟩
      rw [if_neg this] at h1
      omega
  · rw [if_neg h0]
    by_cases h1 : b = "$"
    · rw [if_pos h1, decide_eq_true_iff]
      subst h1
      constructor
      · rintro ⟨h1, h2, h3⟩
        refine ⟨by split <;> omega, fun q => h0 q.1, fun q => by omega⟩
      · rintro ⟨h1, h2, h3⟩
        have : ¬ 0 < o := fun q => h3 ⟨rfl, q⟩
        split at h1 <;> omega
    · rw [if_neg h1]
      constructor
      · rintro ⟨h3, h2, _⟩
        refine ⟨by split <;> omega, fun q => h0 q.1, fun q => h1 q.1⟩
      · rintro ⟨h3, h2, _⟩
        split at h3
        · exact ⟨by omega, by omega, rfl⟩
        · exact ⟨by omega, by omega, rfl⟩
section
variable {P : Program} {w : World} {K : PySem.W.Frag} {mg : Str → Option Value} {base : Heap}
theorem ok_law_bag (T : Txt K w mg) : FnOk P w K mg base CX0 1 T.a_law_bag T.d_law_bag ["script"] (spBag K) := by
  refine T.f_law_bag.ok sc_law_bag (fun vs H Q E h => ?_) (fun cdv A outer s H vs Q E hr h => ?_)
  · obtain ⟨a, ns, rfl, _⟩ := h
    rfl
  · obtain ⟨a, ns, rfl, ha, hl, k⟩ := h
    refine ⟨_, (pss_cons (ps_set (i := 1) sc_law_bag.nd rfl (by first | exact Or.inl rfl | exact Or.inr rfl) pe_int)
    (Evl.pss_cut (ps_for PassesOwn.never rfl (pi_list (pe_slice sl_list (pv 0) po_none (po_some pe_int))) (pg_name (i := 2) sc_law_bag.nd rfl (by first | exact Or.inl rfl | exact Or.inr rfl))
      (pss_one (ps_set (i := 1) sc_law_bag.nd rfl (by first | exact Or.inl rfl | exact Or.inr rfl) (pe_op op_mod (pe_callTy call_int1 (by rfl) T.n_int (by decide +kernel) (pa_cons (pe_op op_add (pe_op op_add (pe_op op_mul (pv 1) pe_int) (pe_op op_mod (pe_callTy call_int1 (by rfl) T.n_int (by decide +kernel) (pa_cons (pv 2) pa_nil)) pe_int)) pe_int) pa_nil)) pe_int))))
    (pss_one (ps_ret (pe_lst (pa_cons (pe_lc (own := [("cell", 2)]) (g := gName 2) rfl sc_law_bag.nd (pi_list (pe_slice sl_list (pv 0) po_none (po_some pe_int))) (blkOk_by (N := N_law_bag) (sc := defScope s_law_bag) (by decide +kernel)) (fun _ _ _ _ _ => pg_name (i := 2) sc_law_bag.nd rfl (Or.inl rfl)) (fun _ _ _ _ _ => pts_nil) (fun _ _ _ _ _ => (pe_callTy call_int1 (by rfl) T.n_int (by decide +kernel) (pa_cons (pv 2) pa_nil)))) (pa_cons pe_int (pa_cons pe_int (pa_cons (pv 1) (pa_cons pe_int pa_nil)))))))))), ?_⟩
    obtain ⟨ms, hms⟩ : ∃ ms : List Int, cutV (ns.map V.int) none (some 63) = ms.map V.int := ⟨_, (by
      unfold cutV
      rw [← List.map_drop, ← List.map_take])⟩
    have lm : ms.length ≤ 63 := by
      have h1 := cutV_length (ns.map V.int) none (some 63)
      rw [hms, List.length_map, List.length_map] at h1
      omega
    let Pv : L2.St → Hp → Prop := fun σ H' => Same H H' ∧ ∃ (z : Int) (v : Option V), 0 ≤ z ∧ z < 2147483399 ∧ σ = [some (.ref a), some (.int z), v]
    refine ⟨Pv, ⟨_, rfl, _, rfl, a, _, rfl, ha, fun p hp => ⟨p, rfl, ⟨_, SqL.of upd_same⟩, ?_⟩⟩, ?_⟩
    · rw [hms]
      have sp := OW.Same.upd_new (o := .lst (ms.map V.int)) (Same.refl H) hp
      refine for_list (K := K) (a := p) (xs := ms.map V.int) (fun i σ H' => Pv σ H' ∧ H' p = some (.lst (ms.map V.int))) ⟨⟨sp, 17787, none, by decide, by decide, rfl⟩, upd_same⟩ (fun i σ H' _ z => SqL.of z.2) ?_ (fun σ H' z => z.1)
      rintro i x σ H1 hx ⟨⟨s1, z, v, z0, z1, rfl⟩, hp1⟩
      rw [List.getElem?_map] at hx
      cases hu : ms[i]? with
      | none =>
        rw [hu] at hx
        cases hx
      | some u =>
        rw [hu] at hx
        have hx' := Option.some.inj hx
        subst hx'
        refine ⟨_, rfl, _, _, rfl, rfl, .inl ⟨by omega, by omega⟩, _, rfl, .inl ⟨_, rfl, _, _, rfl, rfl, (by decide : (0 : Int) < 2147483563), _, _, rfl, rfl, _, _, rfl, rfl, .inl ⟨_, rfl, _, _, rfl, rfl, (by decide : (0 : Int) < 2147483399), ?_⟩⟩⟩
        exact ⟨⟨s1, _, _, Int.emod_nonneg _ (by decide), Int.emod_lt_of_pos _ (by decide), rfl⟩, hp1⟩
    · rintro σ H1 ⟨s1, z, v, z0, z1, rfl⟩
      refine ⟨_, rfl, _, rfl, a, _, rfl, s1.seq ha, fun p hp => ⟨p, rfl, ⟨_, SqL.of upd_same⟩, fun D hD => ?_⟩⟩
      rw [hms] at hD ⊢
      have sp := OW.Same.upd_new (o := .lst (ms.map V.int)) (Same.refl H1) hp
      have nDp : p ≠ D := ne_of_none upd_same hD
      refine lc_list (K := K) (a := p) (xs := ms.map V.int) (fun i H' => Same H1 H' ∧ H' p = some (.lst (ms.map V.int)) ∧ H' D = some (.lst ((ms.take i).map V.int))) ⟨OW.Same.upd_new sp (sp.free hD), (upd_ne nDp).trans upd_same, upd_same⟩ (fun i H' _ h => SqL.of h.2.1) ?_ ?_
      · rintro i x H' hx ⟨h1, h2, h3⟩
        rw [List.getElem?_map] at hx
        cases hu : ms[i]? with
        | none =>
          rw [hu] at hx
          cases hx
        | some u =>
          rw [hu] at hx
          have hx' := Option.some.inj hx
          subst hx'
          have hi : i < ms.length := (List.getElem?_eq_some_iff.mp hu).1
          refine ⟨rfl, _, rfl, .inl ⟨_, rfl, _, h3, ?_, OW.Same.upd_new h1 (sp.free hD), (upd_ne nDp).trans h2, ?_⟩⟩
          · rw [List.length_map, List.length_take]
            exact small1000 (by omega)
          · rw [upd_same, List.take_succ, hu]
            simp
      · rintro H' ⟨h1, _, h3⟩
        rw [List.length_map, List.take_length] at h3
        refine ⟨_, rfl, by show 5 ≤ sizeLine; decide, fun B hB => ?_⟩
        have sB := OW.Same.upd_new (o := .lst [.ref D, .int 0, .int 0, .int z, .int 0]) (Same.refl H') hB
        exact k _ B D ((s1.trans h1).trans sB) ((s1.trans h1).free hB) ⟨0, 0, z, 0, ms, upd_same, sB _ _ h3, by decide, by decide, z0, by omega, by decide⟩
theorem ok_law_word (T : Txt K w mg) : FnOk P w K mg base CX0 1 T.a_law_word T.d_law_word ["base", "offset"] spWord := by
  refine T.f_law_word.ok sc_law_word (fun vs H Q E h => ?_) (fun cdv A outer s H vs Q E hr h => ?_)
  · obtain ⟨b, o, rfl, _⟩ := h
    rfl
  · obtain ⟨b, o, rfl, hb, k⟩ := h
    refine ⟨_, (Evl.pss_cut (ps_if (PW.pt (pw_or (pt_cmpR op_gt (pe_callB call_abs (by rfl) T.n_abs (by decide +kernel) (pa_cons (pv 1) pa_nil)) pe_int (nomark _)) (pw_or (PW.pt (pw_and (pt_cmpR op_eq (pv 0) pe_str (nomark _)) (pw_and1 (pt_cmpR op_lt (pv 1) pe_int (nomark _))))) (pw_or1 (PW.pt (pw_and (pt_cmpR op_eq (pv 0) pe_str (nomark _)) (pw_and1 (pt_cmpR op_gt (pv 1) pe_int (nomark _)))))))))
      (pss_one (ps_ret pe_str))
      pss_nil)
    (pss_cons (ps_if (pt_cmpR op_eq (pv 0) pe_str (nomark _))
      (pss_one (ps_ret (pe_callTy call_str_int (by rfl) T.n_str (by decide +kernel) (pa_cons (pv 1) pa_nil))))
      pss_nil)
    (pss_one (ps_ret (pe_ifExp (pt_cmpR op_eq (pv 1) pe_int (nomark _)) (pv 0) (pe_op op_add_str (pe_op op_add_str (pv 0) (pe_ifExp (pt_cmpR op_gt (pv 1) pe_int (nomark _)) pe_str pe_str)) (pe_callTy call_str_int (by rfl) T.n_str (by decide +kernel) (pa_cons (pe_callB call_abs (by rfl) T.n_abs (by decide +kernel) (pa_cons (pv 1) pa_nil)) pa_nil)))))))), ?_⟩
    have no : ¬ (absI o ≤ 200 ∧ ¬ (b = "0" ∧ o < 0) ∧ ¬ (b = "$" ∧ 0 < o)) → Q (.str "") H := fun z => by
      have e : wordOf b o = "" := if_neg (fun q => z (ok_iff.mp q))
      rw [e] at k
      exact k
    refine ⟨fun σ H' => H' = H ∧ σ = [some (.str b), some (.int o)] ∧ okAt b o = true, ?_, ?_⟩
    · refine ⟨_, rfl, _, rfl, _, _, rfl, rfl, _, rfl, ?_⟩
      refine ite2 (fun z => no (fun q => ?_)) (fun z1 => ?_)
      · have := of_decide_eq_true z
        unfold absI at q
        omega
      have z1' : absI o ≤ 200 := by
        have : ¬ _ := fun q => z1 (decide_eq_true q)
        unfold absI
        omega
      have ne : ¬ (("0" : Str) = "$") := by decide +kernel
      refine ⟨_, rfl, rfl, _, rfl, ?_⟩
      refine ite2 (fun z => ?_) (fun z2 => ?_)
      · have z2 : b = "0" := V.str.inj (of_decide_eq_true z)
        refine ⟨_, rfl, _, _, rfl, rfl, _, rfl, ?_⟩
        refine ite2 (fun z => no (fun q => q.2.1 ⟨z2, of_decide_eq_true z⟩)) (fun z3 => ?_)
        refine ⟨_, rfl, rfl, _, rfl, ?_⟩
        rw [decide_eq_false (fun z => ne (z2.symm.trans (V.str.inj z)))]
        exact ⟨rfl, rfl, ok_iff.mpr ⟨z1', fun q => z3 (decide_eq_true q.2), fun q => ne (z2.symm.trans q.1)⟩⟩
      · have z2 : ¬ b = "0" := fun q => z2 (decide_eq_true (congrArg V.str q))
        refine ⟨_, rfl, rfl, _, rfl, ?_⟩
        refine ite2 (fun z => ?_) (fun z3 => ?_)
        · have z3 : b = "$" := V.str.inj (of_decide_eq_true z)
          refine ⟨_, rfl, _, _, rfl, rfl, _, rfl, ?_⟩
          refine ite2 (fun z => no (fun q => q.2.2 ⟨z3, of_decide_eq_true z⟩)) (fun z4 => ?_)
          exact ⟨rfl, rfl, ok_iff.mpr ⟨z1', fun q => z2 q.1, fun q => z4 (decide_eq_true q.2)⟩⟩
        · exact ⟨rfl, rfl, ok_iff.mpr ⟨z1', fun q => z2 q.1, fun q => z3 (decide_eq_true (congrArg V.str q.1))⟩⟩
    · rintro σ H1 ⟨rfl, rfl, ok⟩
      have ab := ok_abs ok
      have lg : ∀ n : Int, n.natAbs ≤ 200 → n.natAbs.log2 < 1920 := fun n h => by
        by_cases h0 : n.natAbs = 0
        · rw [h0]
          decide
        · have := (Nat.log2_lt (k := 8) h0).mpr (by omega)
          omega
      have ab2 : o.natAbs ≤ 200 := by
        unfold absI at ab
        split at ab <;> omega
      rw [show wordOf b o = wd b o from if_pos ok] at k
      unfold wd at k
      refine ⟨_, rfl, rfl, _, rfl, ?_⟩
      refine ite2 (fun z => ?_) (fun z => ?_)
      · rw [if_pos (V.str.inj (of_decide_eq_true z))] at k
        exact ⟨_, rfl, o, rfl, lg o ab2, k⟩
      rw [if_neg (fun q => z (decide_eq_true (congrArg V.str q)))] at k
      refine ⟨_, rfl, rfl, _, rfl, ?_⟩
      rw [int_dec]
      refine ite2 (fun z => ?_) (fun z => ?_)
      · rw [if_pos (of_decide_eq_true z)] at k
        exact ⟨_, rfl, k⟩
      rw [if_neg (fun q => z (decide_eq_true q))] at k
      have l2 : ∀ x : Int, x.natAbs ≤ 200 → (toString x : Str).length ≤ 10 := fun x h => by
        have h1 : x.natAbs < 10 ^ 3 := by omega
        have h2 := int_text_length_le10 (k := 3) (by decide) h1
        rw [ofString_length]
        omega
      have l3 := l2 (if o < 0 then -o else o) (by split <;> omega)
      have sz : ∀ {n : Nat}, n ≤ 1000 → n ≤ sizeLine := fun h => Nat.le_of_lt (small1000 h)
      refine ⟨_, rfl, _, rfl, _, _, rfl, rfl, _, rfl, ?_⟩
      refine ite2 (fun z => ?_) (fun z => ?_)
      · rw [if_pos (of_decide_eq_true z)] at k
        have e1 : (b ++ ("+" : Str)).length = b.length + 1 := by
          rw [strLen_append]
          rfl
        refine ⟨b, "+", rfl, rfl, sz (Nat.le_trans (Nat.add_le_add hb (show ("+" : Str).length ≤ 1 from Nat.le_refl 1)) (by decide)), _, rfl, o, rfl, _, rfl, lg _ (by split <;> omega), b ++ "+", _, rfl, rfl, sz (by omega), k⟩
      · rw [if_neg (fun q => z (decide_eq_true q))] at k
        have e1 : (b ++ ("-" : Str)).length = b.length + 1 := by
          rw [strLen_append]
          rfl
        refine ⟨b, "-", rfl, rfl, sz (Nat.le_trans (Nat.add_le_add hb (show ("-" : Str).length ≤ 1 from Nat.le_refl 1)) (by decide)), _, rfl, o, rfl, _, rfl, lg _ (by split <;> omega), b ++ "-", _, rfl, rfl, sz (by omega), k⟩
theorem ok_law_gap (T : Txt K w mg) : FnOk P w K mg base CX0 1 T.a_law_gap T.d_law_gap ["u", "v", "values", "last"] (spGap K) := by
  refine T.f_law_gap.ok sc_law_gap (fun vs H Q E h => ?_) (fun cdv A outer s H vs Q E hr h => ?_)
  · obtain ⟨u, v, d, kvs, last, n, m, rfl, _⟩ := h
    rfl
  · obtain ⟨u, v, d, kvs, last, n, m, rfl, hd, hu, hv, k⟩ := h
    refine ⟨_, (Evl.pss_cut (ps_set (i := 4) sc_law_gap.nd rfl (by first | exact Or.inl rfl | exact Or.inr rfl) (pe_ifExp (pt_cmpR op_eq (pv 0) pe_str (nomark _)) pe_int (pe_ifExp (pt_cmpR op_eq (pv 0) pe_str (nomark _)) (pv 3) (pe_dget (hu_of hr) (pv 2) (pv 0) (fun _ _ => rfl)))))
    (Evl.pss_cut (ps_set (i := 5) sc_law_gap.nd rfl (by first | exact Or.inl rfl | exact Or.inr rfl) (pe_ifExp (pt_cmpR op_eq (pv 1) pe_str (nomark _)) pe_int (pe_ifExp (pt_cmpR op_eq (pv 1) pe_str (nomark _)) (pv 3) (pe_dget (hu_of hr) (pv 2) (pv 1) (fun _ _ => rfl)))))
    (pss_one (ps_ret (pe_op op_sub (pv 4) (pv 5)))))), ?_⟩
    refine ⟨fun σ H' => H' = H ∧ σ = [some (.str u), some (.str v), some (.ref d), some (.int last), some (.int n), none], ?_, ?_⟩
    · refine ⟨_, rfl, rfl, _, rfl, ?_⟩
      rcases hu with ⟨rfl, rfl⟩ | ⟨h1, rfl, rfl⟩ | ⟨h1, h2, h3⟩
      · rw [decide_eq_true rfl]
        exact ⟨rfl, rfl⟩
      · rw [decide_eq_false (fun z => h1 (V.str.inj z))]
        refine ⟨_, rfl, rfl, _, rfl, ?_⟩
        rw [decide_eq_true rfl]
        exact ⟨_, rfl, rfl, rfl⟩
      · rw [decide_eq_false (fun z => h1 (V.str.inj z))]
        refine ⟨_, rfl, rfl, _, rfl, ?_⟩
        rw [decide_eq_false (fun z => h2 (V.str.inj z))]
        exact ⟨_, rfl, _, rfl, d, V.int n, rfl, by rw [← h3]; exact DGet.k (k := Sum.inr u) hd, rfl, rfl⟩
    · rintro σ H1 ⟨rfl, rfl⟩
      refine ⟨fun σ H' => H' = H1 ∧ σ = [some (.str u), some (.str v), some (.ref d), some (.int last), some (.int n), some (.int m)], ?_, ?_⟩
      · refine ⟨_, rfl, rfl, _, rfl, ?_⟩
        rcases hv with ⟨rfl, rfl⟩ | ⟨h1, rfl, rfl⟩ | ⟨h1, h2, h3⟩
        · rw [decide_eq_true rfl]
          exact ⟨rfl, rfl⟩
        · rw [decide_eq_false (fun z => h1 (V.str.inj z))]
          refine ⟨_, rfl, rfl, _, rfl, ?_⟩
          rw [decide_eq_true rfl]
          exact ⟨_, rfl, rfl, rfl⟩
        · rw [decide_eq_false (fun z => h1 (V.str.inj z))]
          refine ⟨_, rfl, rfl, _, rfl, ?_⟩
          rw [decide_eq_false (fun z => h2 (V.str.inj z))]
          exact ⟨_, rfl, _, rfl, d, V.int m, rfl, by rw [← h3]; exact DGet.k (k := Sum.inr v) hd, rfl, rfl⟩
      · rintro σ H2 ⟨rfl, rfl⟩
        exact ⟨_, rfl, _, rfl, _, _, rfl, rfl, k⟩
end
end K02

set_option Elab.async false
set_option linter.all false
set_option maxRecDepth 100000
set_option maxHeartbeats 4000000
namespace K02
open PySem L2 OW TL
theorem sz1000 {n : Nat} (h : n ≤ 1000) : n ≤ sizeLine := Nat.le_of_lt (small1000 h)
theorem num_log {n : Int} (h0 : 0 ≤ n) (h1 : n ≤ 200) : n.natAbs.log2 < 1920 := by
  by_cases q : n.natAbs = 0
  · rw [q]
    decide
  · have := (Nat.log2_lt (k := 8) q).mpr (by omega)
    omega
theorem mid_len (a b c : Str) : (a ++ b ++ c).length = a.length + b.length + c.length := by rw [strLen_append, strLen_append]
def wCost (c : Int) : Int := minI (absI c) (absI (c + 1))
def spWays : Sp := fun vs H Q _ => ∃ (b c0 : Addr) (u v : Str) (c : Int) (rs : List Str), vs = [.ref b, .str u, .str v, .int c] ∧ Box b c0 H ∧ PairOk rs u v ∧
  ∀ (H' : Hp) (m : Addr) (ts : List Str), Box b c0 H' → FrB b H H' → H m = none → H' m = some (.lst (ts.map V.str)) → ts.length ≤ 200 → (∀ t ∈ ts, Says rs u v t (wCost c) (fun g => decide (g ≤ c))) → Q (.ref m) H'
section
variable {P : Program} {w : World} {K : PySem.W.Frag} {mg : Str → Option Value} {base : Heap}
theorem ok_law_size_ways (T : Txt K w mg) : FnOk P w K mg base CX0 1 T.a_law_size_ways T.d_law_size_ways ["name", "c"] (spSizeW K fun c g => decide (g + c ≥ 0)) := by
  refine T.f_law_size_ways.ok sc_law_size_ways (fun vs H Q E h => ?_) (fun cdv A outer s H vs Q E hr h => ?_)
  · obtain ⟨r, c, rs, rfl, _⟩ := h
    rfl
  · obtain ⟨r, c, rs, rfl, hr', sub, hc, k⟩ := h
    refine ⟨_, (pss_cons (ps_set (i := 2) sc_law_size_ways.nd rfl (by first | exact Or.inl rfl | exact Or.inr rfl) (pe_lst pa_nil))
    (Evl.pss_cut (ps_if (pt_chain op_le op_le pe_int (pe_op op_sub pe_int (pv 1)) pe_int)
      (pss_one (ps_expr (pe_bm PySem.F.plainAttrs_list PySem.F.slot_list_append PySem.F.type_list_append mt_append (pv 2) (pa_cons (pe_op op_add_str (pe_op op_add_str (pv 0) pe_str) (pe_callTy call_str_int (by rfl) T.n_str (by decide +kernel) (pa_cons (pe_op op_sub pe_int (pv 1)) pa_nil))) pa_nil))))
      pss_nil)
    (Evl.pss_cut (ps_if (pt_chain op_le op_le pe_int (pe_op op_sub pe_int (pv 1)) pe_int)
      (pss_one (ps_expr (pe_bm PySem.F.plainAttrs_list PySem.F.slot_list_append PySem.F.type_list_append mt_append (pv 2) (pa_cons (pe_op op_add_str (pe_op op_add_str (pv 0) pe_str) (pe_callTy call_str_int (by rfl) T.n_str (by decide +kernel) (pa_cons (pe_op op_sub pe_int (pv 1)) pa_nil))) pa_nil))))
      pss_nil)
    (pss_one (ps_ret (pv 2)))))), ?_⟩
    have rl := (ranges_blank r (sub r hr')).2
    refine ⟨by decide, fun m hm => ?_⟩
    let Pv : Nat → L2.St → Hp → Prop := fun n σ H' => σ = [some (.str r), some (.int c), some (.ref m)] ∧ Same H H' ∧ ∃ ts : List Str, H' m = some (.lst (ts.map V.str)) ∧ ts.length ≤ n ∧ ∀ t ∈ ts, Says rs "$" "0" t (minI (absI c) (absI (c + 1))) (fun g => decide (g + c ≥ 0))
    have P0 : Pv 0 [some (.str r), some (.int c), some (.ref m)] (upd H m (.lst [])) := ⟨rfl, OW.Same.upd_new (Same.refl H) hm, [], upd_same, Nat.le_refl _, fun t ht => by cases ht⟩
    have Pm : ∀ {i σ H'}, Pv i σ H' → Pv (i + 1) σ H' := fun ⟨a, b, ts, c, d, e⟩ => ⟨a, b, ts, c, by omega, e⟩
    have Pn : ∀ {i σ H' ts t}, σ = [some (.str r), some (.int c), some (.ref m)] → Same H H' → H' m = some (.lst (List.map V.str ts)) → ts.length ≤ i → (∀ t ∈ ts, Says rs "$" "0" t (minI (absI c) (absI (c + 1))) (fun g => decide (g + c ≥ 0))) → Says rs "$" "0" t (minI (absI c) (absI (c + 1))) (fun g => decide (g + c ≥ 0)) → Pv (i + 1) σ (upd H' m (.lst (ts.map V.str ++ [.str t]))) :=
      fun {i σ H' ts t} a b c' d e f => ⟨a, OW.Same.upd_new b hm, ts ++ [t], by rw [upd_same, List.map_append]; rfl, by rw [List.length_append]; exact Nat.succ_le_succ d, fun x hx => (List.mem_append.mp hx).elim (e x) (fun q => by rw [List.mem_singleton.mp q]; exact f)⟩
    refine ⟨Pv 1, ?_, ?_⟩
    · refine ⟨_, rfl, _, _, rfl, rfl, _, _, rfl, rfl, _, rfl, ?_⟩
      refine ite2 (fun z1 => ⟨_, _, rfl, rfl, _, rfl, ?_⟩) (fun z1 => ⟨_, rfl, Pm P0⟩)
      refine ite2 (fun z2 => ?_) (fun z2 => Pm P0)
      have z1 := of_decide_eq_true z1
      have z2 := of_decide_eq_true z2
      have nl := (num_ok z1 z2).2.2.2
      refine ⟨_, rfl, .inl ⟨rfl, _, SqL.of upd_same⟩, _, rfl, r, " >= ", rfl, rfl, sz1000 (Nat.le_trans (Nat.add_le_add rl (show (" >= " : Str).length ≤ 4 from Nat.le_refl 4)) (by decide)), _, rfl, _, _, rfl, rfl, _, rfl, num_log z1 z2, _, _, rfl, rfl, sz1000 ?_, ?_⟩
      · rw [strLen_append, show (" >= " : Str).length = 4 from rfl]
        omega
      · exact ⟨m, [], _, rfl, rfl, upd_same, by decide, Pn (ts := []) rfl (OW.Same.upd_new (Same.refl H) hm) upd_same (Nat.le_refl 0) (fun t ht => by cases ht) (size_ge hr' sub z1 z2)⟩
    · rintro σ H1 hP
      obtain ⟨rfl, s1, ts, h1, h2, h3⟩ := id hP
      refine ⟨Pv 2, ?_, ?_⟩
      · refine ⟨_, rfl, _, _, rfl, rfl, _, _, rfl, rfl, _, rfl, ?_⟩
        refine ite2 (fun z1 => ⟨_, _, rfl, rfl, _, rfl, ?_⟩) (fun z1 => ⟨_, rfl, Pm hP⟩)
        refine ite2 (fun z2 => ?_) (fun z2 => Pm hP)
        have z1 := of_decide_eq_true z1
        have z2 := of_decide_eq_true z2
        have nl := (num_ok z1 z2).2.2.2
        refine ⟨_, rfl, .inl ⟨rfl, _, SqL.of h1⟩, _, rfl, r, " > ", rfl, rfl, sz1000 (Nat.le_trans (Nat.add_le_add rl (show (" > " : Str).length ≤ 3 from Nat.le_refl 3)) (by decide)), _, rfl, _, _, rfl, rfl, _, rfl, num_log z1 z2, _, _, rfl, rfl, sz1000 ?_, ?_⟩
        · rw [strLen_append, show (" > " : Str).length = 3 from rfl]
          omega
        · exact ⟨m, _, _, rfl, rfl, h1, small1000 (by rw [List.length_map]; omega), Pn rfl s1 h1 h2 h3 (size_gt hr' sub z1 z2)⟩
      · rintro σ H2 ⟨rfl, s2, ts2, g1, g2, g3⟩
        exact ⟨_, rfl, k _ _ ts2 s2 g1 (by omega) g3⟩
theorem ok_law_size_contrary (T : Txt K w mg) : FnOk P w K mg base CX0 1 T.a_law_size_contrary T.d_law_size_contrary ["name", "c"] (spSizeW K fun c g => !decide (g + c ≥ 0)) := by
  refine T.f_law_size_contrary.ok sc_law_size_contrary (fun vs H Q E h => ?_) (fun cdv A outer s H vs Q E hr h => ?_)
  · obtain ⟨r, c, rs, rfl, _⟩ := h
    rfl
  · obtain ⟨r, c, rs, rfl, hr', sub, hc, k⟩ := h
    refine ⟨_, (pss_cons (ps_set (i := 2) sc_law_size_contrary.nd rfl (by first | exact Or.inl rfl | exact Or.inr rfl) (pe_lst pa_nil))
    (Evl.pss_cut (ps_if (pt_chain op_le op_le pe_int (pe_op op_sub pe_int (pv 1)) pe_int)
      (pss_one (ps_expr (pe_bm PySem.F.plainAttrs_list PySem.F.slot_list_append PySem.F.type_list_append mt_append (pv 2) (pa_cons (pe_op op_add_str (pe_op op_add_str (pv 0) pe_str) (pe_callTy call_str_int (by rfl) T.n_str (by decide +kernel) (pa_cons (pe_op op_sub pe_int (pv 1)) pa_nil))) pa_nil))))
      pss_nil)
    (Evl.pss_cut (ps_if (pt_chain op_le op_le pe_int (pe_op op_sub pe_int (pv 1)) pe_int)
      (pss_one (ps_expr (pe_bm PySem.F.plainAttrs_list PySem.F.slot_list_append PySem.F.type_list_append mt_append (pv 2) (pa_cons (pe_op op_add_str (pe_op op_add_str (pv 0) pe_str) (pe_callTy call_str_int (by rfl) T.n_str (by decide +kernel) (pa_cons (pe_op op_sub pe_int (pv 1)) pa_nil))) pa_nil))))
      pss_nil)
    (pss_one (ps_ret (pv 2)))))), ?_⟩
    have rl := (ranges_blank r (sub r hr')).2
    refine ⟨by decide, fun m hm => ?_⟩
    let Pv : Nat → L2.St → Hp → Prop := fun n σ H' => σ = [some (.str r), some (.int c), some (.ref m)] ∧ Same H H' ∧ ∃ ts : List Str, H' m = some (.lst (ts.map V.str)) ∧ ts.length ≤ n ∧ ∀ t ∈ ts, Says rs "$" "0" t (minI (absI c) (absI (c + 1))) (fun g => !decide (g + c ≥ 0))
    have P0 : Pv 0 [some (.str r), some (.int c), some (.ref m)] (upd H m (.lst [])) := ⟨rfl, OW.Same.upd_new (Same.refl H) hm, [], upd_same, Nat.le_refl _, fun t ht => by cases ht⟩
    have Pm : ∀ {i σ H'}, Pv i σ H' → Pv (i + 1) σ H' := fun ⟨a, b, ts, c, d, e⟩ => ⟨a, b, ts, c, by omega, e⟩
    have Pn : ∀ {i σ H' ts t}, σ = [some (.str r), some (.int c), some (.ref m)] → Same H H' → H' m = some (.lst (List.map V.str ts)) → ts.length ≤ i → (∀ t ∈ ts, Says rs "$" "0" t (minI (absI c) (absI (c + 1))) (fun g => !decide (g + c ≥ 0))) → Says rs "$" "0" t (minI (absI c) (absI (c + 1))) (fun g => !decide (g + c ≥ 0)) → Pv (i + 1) σ (upd H' m (.lst (ts.map V.str ++ [.str t]))) :=
      fun {i σ H' ts t} a b c' d e f => ⟨a, OW.Same.upd_new b hm, ts ++ [t], by rw [upd_same, List.map_append]; rfl, by rw [List.length_append]; exact Nat.succ_le_succ d, fun x hx => (List.mem_append.mp hx).elim (e x) (fun q => by rw [List.mem_singleton.mp q]; exact f)⟩
    refine ⟨Pv 1, ?_, ?_⟩
    · refine ⟨_, rfl, _, _, rfl, rfl, _, _, rfl, rfl, _, rfl, ?_⟩
      refine ite2 (fun z1 => ⟨_, _, rfl, rfl, _, rfl, ?_⟩) (fun z1 => ⟨_, rfl, Pm P0⟩)
      refine ite2 (fun z2 => ?_) (fun z2 => Pm P0)
      have z1 := of_decide_eq_true z1
      have z2 := of_decide_eq_true z2
      have nl := (num_ok z1 z2).2.2.2
      refine ⟨_, rfl, .inl ⟨rfl, _, SqL.of upd_same⟩, _, rfl, r, " <= ", rfl, rfl, sz1000 (Nat.le_trans (Nat.add_le_add rl (show (" <= " : Str).length ≤ 4 from Nat.le_refl 4)) (by decide)), _, rfl, _, _, rfl, rfl, _, rfl, num_log z1 z2, _, _, rfl, rfl, sz1000 ?_, ?_⟩
      · rw [strLen_append, show (" <= " : Str).length = 4 from rfl]
        omega
      · exact ⟨m, [], _, rfl, rfl, upd_same, by decide, Pn (ts := []) rfl (OW.Same.upd_new (Same.refl H) hm) upd_same (Nat.le_refl 0) (fun t ht => by cases ht) (size_le hr' sub z1 z2)⟩
    · rintro σ H1 hP
      obtain ⟨rfl, s1, ts, h1, h2, h3⟩ := id hP
      refine ⟨Pv 2, ?_, ?_⟩
      · refine ⟨_, rfl, _, _, rfl, rfl, _, _, rfl, rfl, _, rfl, ?_⟩
        refine ite2 (fun z1 => ⟨_, _, rfl, rfl, _, rfl, ?_⟩) (fun z1 => ⟨_, rfl, Pm hP⟩)
        refine ite2 (fun z2 => ?_) (fun z2 => Pm hP)
        have z1 := of_decide_eq_true z1
        have z2 := of_decide_eq_true z2
        have nl := (num_ok z1 z2).2.2.2
        refine ⟨_, rfl, .inl ⟨rfl, _, SqL.of h1⟩, _, rfl, r, " < ", rfl, rfl, sz1000 (Nat.le_trans (Nat.add_le_add rl (show (" < " : Str).length ≤ 3 from Nat.le_refl 3)) (by decide)), _, rfl, _, _, rfl, rfl, _, rfl, num_log z1 z2, _, _, rfl, rfl, sz1000 ?_, ?_⟩
        · rw [strLen_append, show (" < " : Str).length = 3 from rfl]
          omega
        · exact ⟨m, _, _, rfl, rfl, h1, small1000 (by rw [List.length_map]; omega), Pn rfl s1 h1 h2 h3 (size_lt hr' sub z1 z2)⟩
      · rintro σ H2 ⟨rfl, s2, ts2, g1, g2, g3⟩
        exact ⟨_, rfl, k _ _ ts2 s2 g1 (by omega) g3⟩
end
end K02

set_option Elab.async false
set_option linter.all false
set_option maxRecDepth 100000
set_option maxHeartbeats 4000000
namespace K02
open PySem L2 OW TL
abbrev Try := List (Key × V) × Int
/-- a try: a pair of the values and the last place -/
def Tr (K : PySem.W.Frag) (H : Hp) (v : V) (t : Try) : Prop := ∃ a d, v = .ref a ∧ SqT K H a [.ref d, .int t.2] ∧ H d = some (.dK t.1)
theorem Tr.mono {K : PySem.W.Frag} {H H' : Hp} {v : V} {t : Try} (s : Same H H') (h : Tr K H v t) : Tr K H' v t := by
  obtain ⟨a, d, e, h1, h2⟩ := h
  exact ⟨a, d, e, same_t s h1, s _ _ h2⟩
theorem paired_get {α β : Type} {F : α → β → Prop} : ∀ {l : List α} {m : List β} {i : Nat} {x : β}, Paired F l m → m[i]? = some x → ∃ y, l[i]? = some y ∧ F y x
  | _, _, _, _, .nil, e => by simp at e
  | _, _, 0, _, .cons h _, e => by
    have e' := Option.some.inj e
    subst e'
    exact ⟨_, rfl, h⟩
  | _, _, i + 1, _, .cons _ t, e => paired_get (i := i) t e
/-- the text says what is due of each try -/
def Due (rs : List Str) (t : Str) (cost : Int) (trys : List Try) (ds : List Bool) : Prop := ∃ sg p, Reads rs t sg p ∧ costOf sg p = cost ∧
  ∀ (i : Nat) (e : Try) (d : Bool), trys[i]? = some e → ds[i]? = some d → ∃ n m, At p.1.1 e.1 e.2 n ∧ At p.2.1 e.1 e.2 m ∧ cmpB (n + p.1.2) sg (m + p.2.2) = d
def spAlike (K : PySem.W.Frag) : Sp := fun vs H Q _ => ∃ (p q r s : Addr) (ts rs : List Str) (ys : List V) (trys : List Try) (cost : Int) (ds : List Bool), vs = [.ref p, .ref q, .ref r, .int cost, .ref s] ∧
  H p = some (.lst (ts.map V.str)) ∧ SqL K H q (rs.map V.str) ∧ SqL K H r ys ∧ Paired (Tr K H) ys trys ∧ SqL K H s (ds.map V.bl) ∧ ds.length = trys.length ∧ trys.length ≤ 100 ∧
  (∀ t ∈ ts, Due rs t cost trys ds) ∧ ∀ H', Same H H' → Q (.bl true) H'
section
variable {P : Program} {w : World} {K : PySem.W.Frag} {mg : Str → Option Value} {base : Heap}
theorem ok_law_alike (T : Txt K w mg) : FnOk P w K mg base CX0 10 T.a_law_alike T.d_law_alike ["texts", "ranges", "tries", "cost", "due"] (spAlike K) := by
  refine T.f_law_alike.ok sc_law_alike (fun vs H Q E h => ?_) (fun cdv A outer s0 H vs Q E hr h => ?_)
  · obtain ⟨p, q, r, s, ts, rs, ys, trys, cost, ds, rfl, _⟩ := h
    rfl
  · obtain ⟨p, q, r, s, ts, rs, ys, trys, cost, ds, rfl, hp, hq, hr', hys, hs, hl, hl2, hall, k⟩ := h
    refine ⟨_, (Evl.pss_cut (ps_for PassesOwn.never rfl (pi_list (pv 0)) (pg_name (i := 5) sc_law_alike.nd rfl (by first | exact Or.inl rfl | exact Or.inr rfl))
      (pss_cons (ps_if (pt_not (pt_val (pe_call (ok_law_like T) (hr.mono (by decide)) rfl T.g_law_like T.f_law_like.kp T.b_law_like .nil pass0 (pa_cons (pe_call (okcondition_cost T) (hr.mono (by decide)) rfl T.gcondition_cost T.fcondition_cost.kp T.bcondition_cost .nil pass0 (pa_cons (pv 5) (pa_cons (pe_callTy call_list_of (by rfl) T.n_list (by decide +kernel) (pa_cons (pv 1) pa_nil)) pa_nil))) (pa_cons (pv 3) pa_nil)))))
        (pss_one (ps_ret pe_bl))
        pss_nil)
      (pss_one (ps_for PassesOwn.never rfl (pi_range1 rfl T.n_range (pa_cons (pe_callB call_len_seq (by rfl) T.n_len (by decide +kernel) (pa_cons (pv 2) pa_nil)) pa_nil)) (pg_name (i := 6) sc_law_alike.nd rfl (by first | exact Or.inl rfl | exact Or.inr rfl))
        (pss_cons (ps_asg (pe_ix ix_list (pv 2) (pv 6) (fun _ _ => rfl)) (pg_tup (by rfl) (pgs_cons (pg_name (i := 7) sc_law_alike.nd rfl (by first | exact Or.inl rfl | exact Or.inr rfl)) (pgs_cons (pg_name (i := 8) sc_law_alike.nd rfl (by first | exact Or.inl rfl | exact Or.inr rfl)) pgs_nil))))
        (pss_one (ps_if (pt_not (pt_val (pe_call (ok_law_like T) (hr.mono (by decide)) rfl T.g_law_like T.f_law_like.kp T.b_law_like .nil pass0 (pa_cons (pe_call (okcondition_holds T) (hr.mono (by decide)) rfl T.gcondition_holds T.fcondition_holds.kp T.bcondition_holds .nil pass0 (pa_cons (pv 5) (pa_cons (pe_callTy call_dictD (by rfl) T.n_dict (by decide +kernel) (pa_cons (pv 7) pa_nil)) (pa_cons (pv 8) (pa_cons (pe_callTy call_list_of (by rfl) T.n_list (by decide +kernel) (pa_cons (pv 1) pa_nil)) pa_nil))))) (pa_cons (pe_ix ix_list (pv 4) (pv 6) (fun _ _ => rfl)) pa_nil)))))
          (pss_one (ps_ret pe_bl))
          pss_nil)))))))
    (pss_one (ps_ret pe_bl))), ?_⟩
    let PO : L2.St → Hp → Prop := fun σ H' => (∃ x1 x2 x3 x4, σ = [some (.ref p), some (.ref q), some (.ref r), some (.int cost), some (.ref s), x1, x2, x3, x4]) ∧ Same H H'
    refine ⟨PO, ⟨_, rfl, p, rfl, ⟨_, SqL.of hp⟩, for_list (K := K) (a := p) (xs := ts.map V.str) (fun _ => PO) ⟨⟨_, _, _, _, rfl⟩, Same.refl H⟩ (fun i σ H' _ z => SqL.of (z.2 _ _ hp)) ?_ (fun σ H' z => z)⟩, ?_⟩
    · rintro i x σ H1 hx ⟨⟨x1, x2, x3, x4, rfl⟩, s1⟩
      rw [List.getElem?_map] at hx
      cases hu : ts[i]? with
      | none =>
        rw [hu] at hx
        cases hx
      | some t =>
        rw [hu] at hx
        have hx' := Option.some.inj hx
        subst hx'
        obtain ⟨sg, pp, hR, hc, hd⟩ := hall t (List.mem_of_getElem? hu)
        refine ⟨_, rfl, _, rfl, q, _, rfl, .inl (s1.seq hq), fun l hl' => ⟨t, l, rs, sg, pp, rfl, SqL.of upd_same, hR, fun H2 s2 => ⟨_, rfl, ?_⟩⟩⟩
        have s3 := s1.trans ((OW.Same.upd_new (o := .lst (rs.map V.str)) (Same.refl H1) hl').trans s2)
        rw [hc]
        refine ⟨.inr ⟨cost, rfl⟩, _, rfl, ?_⟩
        have lys : ys.length = trys.length := Paired.len hys
        let PI : L2.St → Hp → Prop := fun σ H' => (∃ x2 x3 x4, σ = [some (.ref p), some (.ref q), some (.ref r), some (.int cost), some (.ref s), some (.str t), x2, x3, x4]) ∧ Same H H'
        refine ⟨_, rfl, r, _, rfl, .inl (s3.seq hr'), (ys.length : Int), rfl, by omega, by omega, for_range (lo := 0) (n := ys.length) (fun _ => PI) ⟨⟨_, _, _, rfl⟩, s3⟩ ?_ (fun σ H' z => ⟨⟨_, z.1⟩, z.2⟩)⟩
        rintro j σ H3 hj ⟨⟨z2, z3, z4, rfl⟩, s4⟩
        rw [Int.zero_add]
        obtain ⟨e, he⟩ : ∃ e, trys[j]? = some e := ⟨_, List.getElem?_eq_getElem (by omega)⟩
        obtain ⟨d, hdd⟩ : ∃ d, ds[j]? = some d := ⟨_, List.getElem?_eq_getElem (by omega)⟩
        obtain ⟨y, hy, a, dd, rfl, ha, hdk⟩ := paired_get hys he
        obtain ⟨n, m, hn, hm, hcmp⟩ := hd j e d he hdd
        refine ⟨_, rfl, _, rfl, r, ys, _, _, rfl, rfl, s4.seq hr', atI_nat hy, a, _, rfl, same_t s4 ha, rfl, _, _, rfl, _, _, rfl, rfl, ?_⟩
        refine ⟨_, rfl, _, rfl, dd, _, rfl, Rd.of (s4 _ _ hdk), fun d2 hd2 => ⟨_, rfl, _, rfl, q, _, rfl, .inl ((OW.Same.upd_new s4 (s4.free hd2)).seq hq), fun l2 hl2' => ?_⟩⟩
        have s5 := OW.Same.upd_new (o := .dK e.1) (Same.refl H3) hd2
        have s6 := OW.Same.upd_new (o := .lst (rs.map V.str)) (Same.refl (upd H3 d2 (.dK e.1))) hl2'
        refine ⟨t, d2, e.1, e.2, l2, rs, sg, pp, n, m, rfl, s6 _ _ upd_same, SqL.of upd_same, hR, hn, hm, fun H4 s7 => ⟨_, rfl, _, rfl, s, _, _, _, rfl, rfl, (s4.trans ((s5.trans s6).trans s7)).seq hs, atI_nat (by rw [List.getElem?_map, hdd]; rfl), ?_⟩⟩
        rw [hcmp]
        refine ⟨.inl ⟨d, rfl⟩, _, rfl, ?_⟩
        exact ⟨⟨_, _, _, rfl⟩, s4.trans ((s5.trans s6).trans s7)⟩
    · rintro σ H1 ⟨⟨x1, x2, x3, x4, rfl⟩, s1⟩
      exact k _ s1
end
end K02

set_option Elab.async false
set_option linter.all false
set_option maxRecDepth 100000
set_option maxHeartbeats 4000000
namespace K02
open PySem L2 OW TL
theorem base_len : ∀ b ∈ bases, b.length ≤ 10 := by decide +kernel
section
variable {P : Program} {w : World} {K : PySem.W.Frag} {mg : Str → Option Value} {base : Heap}
theorem ok_law_ways (T : Txt K w mg) : FnOk P w K mg base CX0 3 T.a_law_ways T.d_law_ways ["bag", "u", "v", "c"] spWays := by
  refine T.f_law_ways.ok sc_law_ways (fun vs H Q E h => ?_) (fun cdv A outer s H vs Q E hr h => ?_)
  · obtain ⟨b, c0, u, v, c, rs, rfl, _⟩ := h
    rfl
  · obtain ⟨b, c0, u, v, c, rs, rfl, hB, ok, k⟩ := h
    refine ⟨_, (pss_cons (ps_set (i := 4) sc_law_ways.nd rfl (by first | exact Or.inl rfl | exact Or.inr rfl) (pe_lst pa_nil))
    (pss_cons (ps_set (i := 5) sc_law_ways.nd rfl (by first | exact Or.inl rfl | exact Or.inr rfl) (pe_lst (pa_cons pe_int (pa_cons (pe_op op_sub pe_int (pv 3)) (pa_cons (pe_op op_sub (pe_op op_sub pe_int (pv 3)) pe_int) (pa_cons pe_int (pa_cons (pe_un un_neg pe_int) (pa_cons (pe_op op_sub (pe_call (ok_law_draw T) (hr.mono (by decide)) rfl T.g_law_draw T.f_law_draw.kp T.b_law_draw .nil pass0 (pa_cons (pv 0) (pa_cons pe_int pa_nil))) pe_int) (pa_cons (pe_op op_sub (pe_call (ok_law_draw T) (hr.mono (by decide)) rfl T.g_law_draw T.f_law_draw.kp T.b_law_draw .nil pass0 (pa_cons (pv 0) (pa_cons pe_int pa_nil))) pe_int) pa_nil)))))))))
    (Evl.pss_cut (ps_if (PW.pt (pw_or (pt_cmpR op_eq (pv 1) pe_str (nomark _)) (pw_or1 (pt_cmpR op_eq (pv 2) pe_str (nomark _)))))
      (pss_one (ps_expr (pe_bm PySem.F.plainAttrs_list PySem.F.slot_list_extend PySem.F.type_list_extend mt_extend (pv 5) (pa_cons (pe_lst (pa_cons (pv 3) (pa_cons (pe_op op_add (pv 3) pe_int) (pa_cons (pe_op op_sub (pv 3) pe_int) pa_nil)))) pa_nil))))
      pss_nil)
    (Evl.pss_cut (ps_for PassesOwn.never rfl (pi_list (pv 5)) (pg_name (i := 6) sc_law_ways.nd rfl (by first | exact Or.inl rfl | exact Or.inr rfl))
      (pss_cons (ps_par3 (i := 7) (j := 8) (l := 9) (by rfl) sc_law_ways.nd rfl rfl rfl (by decide) (by decide) (by decide) rfl rfl rfl (pa_cons (pe_call (ok_law_word T) (hr.mono (by decide)) rfl T.g_law_word T.f_law_word.kp T.b_law_word .nil pass0 (pa_cons (pv 1) (pa_cons (pv 6) pa_nil))) (pa_cons (pe_call (ok_law_word T) (hr.mono (by decide)) rfl T.g_law_word T.f_law_word.kp T.b_law_word .nil pass0 (pa_cons (pv 2) (pa_cons (pe_op op_add (pv 6) (pv 3)) pa_nil))) (pa_cons (pe_call (ok_law_word T) (hr.mono (by decide)) rfl T.g_law_word T.f_law_word.kp T.b_law_word .nil pass0 (pa_cons (pv 2) (pa_cons (pe_op op_add (pe_op op_add (pv 6) (pv 3)) pe_int) pa_nil))) pa_nil))) (by rfl))
      (Evl.pss_cut (ps_if (PW.pt (pw_and (pt_truth (pv 7) (by intro _; rfl)) (pw_and1 (pt_truth (pv 8) (by intro _; rfl)))))
        (pss_one (ps_expr (pe_bm PySem.F.plainAttrs_list PySem.F.slot_list_extend PySem.F.type_list_extend mt_extend (pv 4) (pa_cons (pe_lst (pa_cons (pe_op op_add_str (pe_op op_add_str (pv 7) pe_str) (pv 8)) (pa_cons (pe_op op_add_str (pe_op op_add_str (pv 8) pe_str) (pv 7)) pa_nil))) pa_nil))))
        pss_nil)
      (pss_one (ps_if (PW.pt (pw_and (pt_truth (pv 7) (by intro _; rfl)) (pw_and1 (pt_truth (pv 9) (by intro _; rfl)))))
        (pss_one (ps_expr (pe_bm PySem.F.plainAttrs_list PySem.F.slot_list_extend PySem.F.type_list_extend mt_extend (pv 4) (pa_cons (pe_lst (pa_cons (pe_op op_add_str (pe_op op_add_str (pv 7) pe_str) (pv 9)) (pa_cons (pe_op op_add_str (pe_op op_add_str (pv 9) pe_str) (pv 7)) pa_nil))) pa_nil))))
        pss_nil)))))
    (pss_one (ps_ret (pv 4))))))), ?_⟩
    refine ⟨by decide, fun m hm => ?_⟩
    have hB0 : Box b c0 (upd H m (.lst [])) := hB.write (hB.nb hm) (hB.nc hm)
    have f0 : FrB b H (upd H m (.lst [])) := (FrB.refl b H).new hm
    refine ⟨_, rfl, _, _, rfl, rfl, _, rfl, _, _, rfl, rfl, _, _, rfl, rfl, _, rfl, _, rfl, b, c0, _, rfl, hB0, by decide, by decide, fun H1 t1 hB1 f1 _ _ => ⟨_, _, rfl, rfl, _, rfl, b, c0, _, rfl, hB1, by decide, by decide, fun H2 t2 hB2 f2 _ _ => ⟨_, _, rfl, rfl, by show 7 ≤ sizeLine; decide, fun l hl => ?_⟩⟩⟩
    have f02 := (f0.trans f1).trans f2
    have hm2 : H2 m = some (.lst []) := f2 _ _ (hB.nb hm) (f1 _ _ (hB.nb hm) upd_same)
    have nlm : m ≠ l := ne_of_none hm2 hl
    have nbl : l ≠ b := hB2.nb hl
    have ncl : l ≠ c0 := hB2.nc hl
    let Core : List Int → Nat → Hp → Prop := fun zs n H' => Box b c0 H' ∧ FrB b H H' ∧ H' l = some (.lst (zs.map V.int)) ∧ ∃ ts : List Str, H' m = some (.lst (ts.map V.str)) ∧ ts.length ≤ n ∧ ∀ t ∈ ts, Says rs u v t (wCost c) (fun g => decide (g ≤ c))
    have hl0 : H l = none := by
      cases q : H l with
      | none => rfl
      | some o =>
        have := f02 l o nbl q
        rw [hl] at this
        cases this
    have C0 : Core [0, 0 - c, 0 - c - 1, 200, -200, t1 - 200, t2 - 200] 0 (upd H2 l (.lst [.int 0, .int (0 - c), .int (0 - c - 1), .int 200, .int (-200), .int (t1 - 200), .int (t2 - 200)])) :=
      ⟨hB2.write nbl ncl, f02.new hl0, upd_same, [], (upd_ne nlm).trans hm2, Nat.le_refl _, fun t ht => by cases ht⟩
    refine ⟨fun σ H' => σ = [some (.ref b), some (.str u), some (.str v), some (.int c), some (.ref m), some (.ref l), none, none, none, none] ∧ ∃ zs, zs.length ≤ 10 ∧ Core zs 0 H', ?_, ?_⟩
    · have st0 : ∀ zs n H', Core zs n H' → zs.length ≤ 10 → n = 0 → ([some (V.ref b), some (.str u), some (.str v), some (.int c), some (.ref m), some (.ref l), none, none, none, none] : L2.St) = [some (.ref b), some (.str u), some (.str v), some (.int c), some (.ref m), some (.ref l), none, none, none, none] ∧ ∃ zs, zs.length ≤ 10 ∧ Core zs 0 H' := fun zs n H' z lz e => by
        subst e
        exact ⟨rfl, zs, lz, z⟩
      refine ⟨_, rfl, rfl, _, rfl, ?_⟩
      refine ite2 (fun _ => ?_) (fun _ => ⟨_, rfl, rfl, _, rfl, ite2 (fun _ => ?_) (fun _ => st0 _ _ _ C0 (by show 7 ≤ 10; decide) rfl)⟩)
      all_goals
        refine ⟨_, rfl, .inl ⟨rfl, _, SqL.of C0.2.2.1⟩, _, rfl, _, rfl, _, _, rfl, rfl, _, rfl, _, _, rfl, rfl, (by show 3 ≤ sizeLine; decide), fun e he => ?_⟩
        have h1 := (OW.Same.upd_new (o := .lst [.int c, .int (c + 1), .int (c - 1)]) (Same.refl _) he) _ _ C0.2.2.1
        refine ⟨l, e, _, _, rfl, rfl, h1, upd_same, (by show 10 ≤ sizeLine; decide), ?_⟩
        obtain ⟨q1, q2, q3, ts, q4, q5, q6⟩ := id C0
        have hee : H e = none := by
          cases q : H e with
          | none => rfl
          | some o =>
            have := q2 e o (q1.nb he) q
            rw [he] at this
            cases this
        exact st0 ([0, 0 - c, 0 - c - 1, 200, -200, t1 - 200, t2 - 200] ++ [c, c + 1, c - 1]) 0 _ ⟨(q1.write (q1.nb he) (q1.nc he)).write nbl ncl, (q2.new hee).new hl0, upd_same, ts, (upd_ne nlm).trans ((upd_ne (ne_of_none q4 he)).trans q4), q5, q6⟩ (by show 10 ≤ 10; decide) rfl
    · rintro σ H3 ⟨rfl, zs, lz, C3⟩
      let Pv : Nat → L2.St → Hp → Prop := fun i σ H' => (∃ x1 x2 x3 x4, σ = [some (.ref b), some (.str u), some (.str v), some (.int c), some (.ref m), some (.ref l), x1, x2, x3, x4]) ∧ Core zs (4 * i) H'
      have ul := base_len u ok.hu
      have vl := base_len v ok.hv
      -- two more texts
      have add : ∀ {n H' e ts t1 t2}, Core zs n H' → H' e = none → H' m = some (.lst (List.map V.str ts)) → ts.length ≤ n → (∀ t ∈ ts, Says rs u v t (wCost c) (fun g => decide (g ≤ c))) → Says rs u v t1 (wCost c) (fun g => decide (g ≤ c)) → Says rs u v t2 (wCost c) (fun g => decide (g ≤ c)) →
          Core zs (n + 2) (upd (upd H' e (.lst [.str t1, .str t2])) m (.lst (ts.map V.str ++ [.str t1, .str t2]))) := by
        rintro n H' e ts t1 t2 ⟨q1, q2, q3, _⟩ he q4 q5 q6 z1 z2
        have hee : H e = none := by
          cases q : H e with
          | none => rfl
          | some o =>
            have := q2 e o (q1.nb he) q
            rw [he] at this
            cases this
        refine ⟨(q1.write (q1.nb he) (q1.nc he)).write (hB.nb hm) (hB.nc hm), (q2.new hee).new hm, (upd_ne nlm.symm).trans ((upd_ne (ne_of_none q3 he)).trans q3), ts ++ [t1, t2], by rw [upd_same, List.map_append]; rfl, by rw [List.length_append]; exact Nat.add_le_add_right q5 2, fun x hx => ?_⟩
        rcases List.mem_append.mp hx with hx | hx
        · exact q6 x hx
        · simp only [List.mem_cons, List.not_mem_nil, or_false] at hx
          rcases hx with rfl | rfl
          · exact z1
          · exact z2
      refine ⟨Pv zs.length, ⟨_, rfl, l, rfl, ⟨_, SqL.of C3.2.2.1⟩, for_list (K := K) (a := l) (xs := zs.map V.int) Pv ⟨⟨_, _, _, _, rfl⟩, C3⟩ (fun i σ H' _ z => SqL.of z.2.2.2.1) ?_ (fun σ H' z => by rw [List.length_map] at z; exact z)⟩, ?_⟩
      · rintro i x σ H4 hx ⟨⟨x1, x2, x3, x4, rfl⟩, C4⟩
        rw [List.getElem?_map] at hx
        cases hu : zs[i]? with
        | none =>
          rw [hu] at hx
          cases hx
        | some z =>
          rw [hu] at hx
          have hx' := Option.some.inj hx
          subst hx'
          have hi : i < zs.length := (List.getElem?_eq_some_iff.mp hu).1
          have w1 := word_len (o := z) ok.hu
          have w2 := word_len (o := z + c) ok.hv
          have w3 := word_len (o := z + c + 1) ok.hv
          refine ⟨_, rfl, _, rfl, u, z, rfl, by omega, _, rfl, _, rfl, _, rfl, _, _, rfl, rfl, v, _, rfl, by omega, _, rfl, _, rfl, _, rfl, _, _, rfl, rfl, _, _, rfl, rfl, v, _, rfl, by omega, _, _, _, rfl, ?_⟩
          refine ⟨fun σ H' => σ = [some (.ref b), some (.str u), some (.str v), some (.int c), some (.ref m), some (.ref l), some (.int z), some (.str (wordOf u z)), some (.str (wordOf v (z + c))), some (.str (wordOf v (z + c + 1)))] ∧ Core zs (4 * i + 2) H', ?_, ?_⟩
          · have more : ∀ {n H'}, Core zs n H' → Core zs (n + 2) H' := fun ⟨a1, a2, a3, ts, a4, a5, a6⟩ => ⟨a1, a2, a3, ts, a4, by omega, a6⟩
            refine ⟨_, rfl, _, ⟨sz1000 (by omega), rfl⟩, ?_⟩
            refine ite2 (fun e1 => ?_) (fun e1 => ⟨rfl, more C4⟩)
            refine ⟨_, rfl, _, ⟨sz1000 (by omega), rfl⟩, ?_⟩
            refine ite2 (fun e2 => ?_) (fun e2 => ⟨rfl, more C4⟩)
            obtain ⟨ok1, eq1⟩ := word_ok e1
            obtain ⟨ok2, eq2⟩ := word_ok e2
            obtain ⟨q1, q2, q3, ts, q4, q5, q6⟩ := id C4
            have tl : ∀ {a b : Nat}, a ≤ 10 → b ≤ 10 → a + b ≤ 1000 := fun h1 h2 => by omega
            have L1 : (wordOf u z ++ (" <= " : Str)).length ≤ 20 := by
              rw [strLen_append, show (" <= " : Str).length = 4 from rfl]
              omega
            have L2 : (wordOf v (z + c) ++ (" >= " : Str)).length ≤ 20 := by
              rw [strLen_append, show (" >= " : Str).length = 4 from rfl]
              omega
            refine ⟨_, rfl, .inl ⟨rfl, _, SqL.of q4⟩, _, rfl, wordOf u z, " <= ", rfl, rfl, sz1000 (tl w1 (show (" <= " : Str).length ≤ 10 by show 4 ≤ 10; decide)), _, rfl, _, _, rfl, rfl, sz1000 (by omega), _, rfl, wordOf v (z + c), " >= ", rfl, rfl, sz1000 (tl w2 (show (" >= " : Str).length ≤ 10 by show 4 ≤ 10; decide)), _, rfl, _, _, rfl, rfl, sz1000 (by omega), (by show 2 ≤ sizeLine; decide), fun e he => ?_⟩
            refine ⟨m, e, _, _, rfl, rfl, (upd_ne (ne_of_none q4 he)).trans q4, upd_same, sz1000 (by rw [List.length_map]; show ts.length + 2 ≤ 1000; omega), ?_⟩
            have S1 := says_le ok ok1 ok2 rfl
            have S2 := says_ge ok ok1 ok2 rfl
            rw [← eq1, ← eq2] at S1 S2
            exact ⟨rfl, add C4 he q4 q5 q6 S1 S2⟩
          · rintro σ H5 ⟨rfl, C5⟩
            have more : ∀ {n H'}, Core zs n H' → Core zs (n + 2) H' := fun ⟨a1, a2, a3, ts, a4, a5, a6⟩ => ⟨a1, a2, a3, ts, a4, by omega, a6⟩
            refine ⟨_, rfl, _, ⟨sz1000 (by omega), rfl⟩, ?_⟩
            refine ite2 (fun e1 => ?_) (fun e1 => ⟨⟨_, _, _, _, rfl⟩, more C5⟩)
            refine ⟨_, rfl, _, ⟨sz1000 (by omega), rfl⟩, ?_⟩
            refine ite2 (fun e2 => ?_) (fun e2 => ⟨⟨_, _, _, _, rfl⟩, more C5⟩)
            obtain ⟨ok1, eq1⟩ := word_ok e1
            obtain ⟨ok2, eq2⟩ := word_ok e2
            obtain ⟨q1, q2, q3, ts, q4, q5, q6⟩ := id C5
            have tl : ∀ {a b : Nat}, a ≤ 10 → b ≤ 10 → a + b ≤ 1000 := fun h1 h2 => by omega
            have L1 : (wordOf u z ++ (" < " : Str)).length ≤ 20 := by
              rw [strLen_append, show (" < " : Str).length = 3 from rfl]
              omega
            have L2 : (wordOf v (z + c + 1) ++ (" > " : Str)).length ≤ 20 := by
              rw [strLen_append, show (" > " : Str).length = 3 from rfl]
              omega
            refine ⟨_, rfl, .inl ⟨rfl, _, SqL.of q4⟩, _, rfl, wordOf u z, " < ", rfl, rfl, sz1000 (tl w1 (show (" < " : Str).length ≤ 10 by show 3 ≤ 10; decide)), _, rfl, _, _, rfl, rfl, sz1000 (by omega), _, rfl, wordOf v (z + c + 1), " > ", rfl, rfl, sz1000 (tl w3 (show (" > " : Str).length ≤ 10 by show 3 ≤ 10; decide)), _, rfl, _, _, rfl, rfl, sz1000 (by omega), (by show 2 ≤ sizeLine; decide), fun e he => ?_⟩
            refine ⟨m, e, _, _, rfl, rfl, (upd_ne (ne_of_none q4 he)).trans q4, upd_same, sz1000 (by rw [List.length_map]; show ts.length + 2 ≤ 1000; omega), ?_⟩
            have S1 := says_lt ok ok1 ok2 rfl
            have S2 := says_gt ok ok1 ok2 rfl
            rw [← eq1, ← eq2] at S1 S2
            exact ⟨⟨_, _, _, _, rfl⟩, add C5 he q4 q5 q6 S1 S2⟩
      · rintro σ H4 ⟨⟨x1, x2, x3, x4, rfl⟩, q1, q2, q3, ts, q4, q5, q6⟩
        exact ⟨_, rfl, k _ _ ts q1 q2 hm q4 (by omega) q6⟩
end
end K02

set_option Elab.async false
set_option linter.all false
set_option maxRecDepth 100000
set_option maxHeartbeats 4000000
namespace K02
open PySem L2 OW TL
def D2 (n0 n1 : Str) (x y : Int) : List (Key × V) := [(Sum.inr n0, .int x), (Sum.inr n1, .int y)]
structure NamesOk (n0 n1 : Str) : Prop where
  h0 : n0 ∈ sNames
  h1 : n1 ∈ sNames
  ne : n0 ≠ n1
def Of4 (n0 n1 b : Str) : Prop := b = "0" ∨ b = "$" ∨ b = n0 ∨ b = n1
theorem names_end : ∀ n ∈ sNames, n ≠ "0" ∧ n ≠ "$" := by decide +kernel
theorem end_ne : ¬ (("$" : Str) = "0") := by decide +kernel
theorem inr_ne {a b : Str} (h : a ≠ b) : ¬ ((Sum.inr a : Key) = Sum.inr b) := fun e => h (Sum.inr.inj e)
theorem put2 {n0 n1 b : Str} {x y : Int} (ne : n0 ≠ n1) (hb : b = n0 ∨ b = n1) (z : Int) : ∃ x' y', putK (D2 n0 n1 x y) (Sum.inr b) (.int z) = D2 n0 n1 x' y' := by
  rcases hb with rfl | rfl
  · refine ⟨z, y, ?_⟩
    simp [putK, D2, ne.symm]
  · refine ⟨x, z, ?_⟩
    simp [putK, D2, ne]
theorem put1 {n0 n1 : Str} {x y : Int} (ne : n0 ≠ n1) : putK [((Sum.inr n0 : Key), V.int x)] (Sum.inr n1) (.int y) = D2 n0 n1 x y := by
  simp [putK, D2, ne]
theorem at2 {n0 n1 b : Str} (N : NamesOk n0 n1) (hb : Of4 n0 n1 b) (x y last : Int) : ∃ n, At b (D2 n0 n1 x y) last n := by
  rcases hb with rfl | rfl | rfl | rfl
  · exact ⟨0, .inl ⟨rfl, rfl⟩⟩
  · exact ⟨last, .inr (.inl ⟨end_ne, rfl, rfl⟩)⟩
  · exact ⟨x, .inr (.inr ⟨(names_end _ N.h0).1, (names_end _ N.h0).2, by simp [valV, D2]⟩)⟩
  · exact ⟨y, .inr (.inr ⟨(names_end _ N.h1).1, (names_end _ N.h1).2, by simp [valV, D2, N.ne]⟩)⟩
theorem FrB.free {b l : Addr} {H H' : Hp} (f : FrB b H H') (n : H' l = none) (nb : l ≠ b) : H l = none := by
  cases q : H l with
  | none => rfl
  | some o =>
    have := f l o nb q
    rw [n] at this
    cases this
theorem frB_t {K : PySem.W.Frag} {b a : Addr} {H H' : Hp} {xs : List V} (nb : a ≠ b) (f : FrB b H H') (h : SqT K H a xs) : SqT K H' a xs := by
  rcases h with (h | ⟨o, h⟩) | h
  · exact .inl (.inl (f _ _ nb h))
  · exact .inl (.inr ⟨o, f _ _ nb h⟩)
  · exact .inr h
/-- pairs outlive what happens to a list -/
theorem Tr.frB {K : PySem.W.Frag} {b : Addr} {H H' : Hp} {v : V} {t : Try} {zs : List V} (hb : H b = some (.lst zs)) (f : FrB b H H') (h : Tr K H v t) : Tr K H' v t := by
  obtain ⟨a, d, e, h1, h2⟩ := h
  have nd : d ≠ b := ne_of h2 hb (by intro z; cases z)
  refine ⟨a, d, e, ?_, f _ _ nd h2⟩
  rcases h1 with (h1 | ⟨o, h1⟩) | h1
  · exact .inl (.inl (f _ _ (ne_of h1 hb (by intro z; cases z)) h1))
  · exact .inl (.inr ⟨o, f _ _ (ne_of h1 hb (by intro z; cases z)) h1⟩)
  · exact .inr h1
theorem FrB.write {b : Addr} {H : Hp} {o : HO} : FrB b H (upd H b o) := fun a u h1 h2 => (upd_ne h1).trans h2
theorem ints_of {xs : List V} {v : V} {zs : List Int} (e : xs = zs.map V.int) (h : v ∈ xs) : ∃ i ∈ zs, v = .int i := by
  subst e
  obtain ⟨i, hi, rfl⟩ := List.mem_map.mp h
  exact ⟨i, hi, rfl⟩
def TryOk (n0 n1 : Str) (t : Try) : Prop := ∃ x y, t.1 = D2 n0 n1 x y
def spTries (K : PySem.W.Frag) : Sp := fun vs H Q _ => ∃ (b c0 : Addr) (u v : Str) (c : Int) (a : Addr) (n0 n1 : Str), vs = [.ref b, .str u, .str v, .int c, .ref a] ∧ Box b c0 H ∧ a ≠ b ∧ H a = some (.lst [.str n0, .str n1]) ∧ NamesOk n0 n1 ∧ Of4 n0 n1 u ∧ Of4 n0 n1 v ∧
  ∀ (H' : Hp) (m : Addr) (ys : List V) (trys : List Try), Box b c0 H' → FrB b H H' → H m = none → H' m = some (.lst ys) → Paired (Tr K H') ys trys → trys.length = 6 → (∀ t ∈ trys, TryOk n0 n1 t) → Q (.ref m) H'
section
variable {P : Program} {w : World} {K : PySem.W.Frag} {mg : Str → Option Value} {base : Heap}
theorem ok_law_tries (T : Txt K w mg) : FnOk P w K mg base CX0 3 T.a_law_tries T.d_law_tries ["bag", "u", "v", "c", "names"] (spTries K) := by
  refine T.f_law_tries.ok sc_law_tries (fun vs H Q E h => ?_) (fun cdv A outer s H vs Q E hr h => ?_)
  · obtain ⟨b, c0, u, v, c, a, n0, n1, rfl, _⟩ := h
    rfl
  · obtain ⟨b, c0, u, v, c, a, n0, n1, rfl, hB, nab, ha, N, hu, hv, k⟩ := h
    refine ⟨_, (pss_cons (ps_set (i := 5) sc_law_tries.nd rfl (by first | exact Or.inl rfl | exact Or.inr rfl) (pe_lst pa_nil))
    (Evl.pss_cut (ps_for PassesOwn.never rfl (pi_list (pe_lst (pa_cons pe_int (pa_cons pe_int (pa_cons (pe_un un_neg pe_int) (pa_cons (pe_op op_sub (pe_call (ok_law_draw T) (hr.mono (by decide)) rfl T.g_law_draw T.f_law_draw.kp T.b_law_draw .nil pass0 (pa_cons (pv 0) (pa_cons pe_int pa_nil))) pe_int) (pa_cons (pe_call (ok_law_great T) (hr.mono (by decide)) rfl T.g_law_great T.f_law_great.kp T.b_law_great .nil pass0 (pa_cons (pv 0) (pa_cons pe_int pa_nil))) (pa_cons (pe_op op_sub pe_int (pe_call (ok_law_great T) (hr.mono (by decide)) rfl T.g_law_great T.f_law_great.kp T.b_law_great .nil pass0 (pa_cons (pv 0) (pa_cons pe_int pa_nil)))) pa_nil)))))))) (pg_name (i := 6) sc_law_tries.nd rfl (by first | exact Or.inl rfl | exact Or.inr rfl))
      (pss_cons (ps_par (i := 9) (j := 10) (by rfl) sc_law_tries.nd rfl rfl (by decide) rfl rfl (pa_cons (pe_call (ok_law_of T) (hr.mono (by decide)) rfl T.g_law_of T.f_law_of.kp T.b_law_of .nil pass0 (pa_cons (pv 0) (pa_cons (pe_lst (pa_cons pe_int (pa_cons pe_int (pa_cons pe_int (pa_cons (pe_call (ok_law_draw T) (hr.mono (by decide)) rfl T.g_law_draw T.f_law_draw.kp T.b_law_draw .nil pass0 (pa_cons (pv 0) (pa_cons pe_int pa_nil))) (pa_cons (pe_call (ok_law_great T) (hr.mono (by decide)) rfl T.g_law_great T.f_law_great.kp T.b_law_great .nil pass0 (pa_cons (pv 0) (pa_cons pe_int pa_nil))) pa_nil)))))) pa_nil))) (pa_cons pe_dnewK pa_nil)) (by rfl))
      (Evl.pss_cut (ps_for PassesOwn.never rfl (pi_list (pv 4)) (pg_name (i := 7) sc_law_tries.nd rfl (by first | exact Or.inl rfl | exact Or.inr rfl))
        (pss_one (ps_dput (hu_of hr) (pv 10) (pv 7) (pe_call (ok_law_of T) (hr.mono (by decide)) rfl T.g_law_of T.f_law_of.kp T.b_law_of .nil pass0 (pa_cons (pv 0) (pa_cons (pe_lst (pa_cons pe_int (pa_cons pe_int (pa_cons (pv 9) (pa_cons (pe_un un_neg pe_int) (pa_cons (pe_call (ok_law_draw T) (hr.mono (by decide)) rfl T.g_law_draw T.f_law_draw.kp T.b_law_draw .nil pass0 (pa_cons (pv 0) (pa_cons pe_int pa_nil))) (pa_cons (pe_call (ok_law_great T) (hr.mono (by decide)) rfl T.g_law_great T.f_law_great.kp T.b_law_great .nil pass0 (pa_cons (pv 0) (pa_cons pe_int pa_nil))) pa_nil))))))) pa_nil))) rfl)))
      (Evl.pss_cut (ps_set (i := 8) sc_law_tries.nd rfl (by first | exact Or.inl rfl | exact Or.inr rfl) (pe_ifExp (pt_cmpR op_eq (pv 2) pe_str (nomark _)) pe_int (pe_ifExp (pt_cmpR op_eq (pv 2) pe_str (nomark _)) (pv 9) (pe_dget (hu_of hr) (pv 10) (pv 2) (fun _ _ => rfl)))))
      (Evl.pss_cut (ps_if (pt_cmpR op_in_seq (pv 1) (pv 4) (by rfl))
        (pss_one (ps_dput (hu_of hr) (pv 10) (pv 1) (pe_op op_add (pe_op op_add (pv 8) (pv 3)) (pv 6)) rfl))
        (pss_one (ps_if (PW.pt (pw_and (pt_cmpR op_eq (pv 1) pe_str (nomark _)) (pw_and1 (pt_cmpR op_ge (pe_op op_add (pe_op op_add (pv 8) (pv 3)) (pv 6)) pe_int (nomark _)))))
          (pss_one (ps_set (i := 9) sc_law_tries.nd rfl (by first | exact Or.inl rfl | exact Or.inr rfl) (pe_op op_add (pe_op op_add (pv 8) (pv 3)) (pv 6))))
          (pss_one (ps_if (pt_cmpR op_in_seq (pv 2) (pv 4) (by rfl))
            (pss_one (ps_dput (hu_of hr) (pv 10) (pv 2) (pe_op op_sub (pe_op op_sub (pe_ifExp (pt_cmpR op_eq (pv 1) pe_str (nomark _)) pe_int (pv 9)) (pv 3)) (pv 6)) rfl))
            pss_nil)))))
      (pss_one (ps_expr (pe_bm PySem.F.plainAttrs_list PySem.F.slot_list_append PySem.F.type_list_append mt_append (pv 5) (pa_cons (pe_tup (pa_cons (pv 10) (pa_cons (pv 9) pa_nil))) pa_nil)))))))))
    (pss_one (ps_ret (pv 5))))), ?_⟩
    refine ⟨by decide, fun m hm => ?_⟩
    have hB0 : Box b c0 (upd H m (.lst [])) := hB.write (hB.nb hm) (hB.nc hm)
    have f0 : FrB b H (upd H m (.lst [])) := (FrB.refl b H).new hm
    have nbm := hB.nb hm
    let PO : Nat → L2.St → Hp → Prop := fun i σ H' => (∃ q6 q7 q8 q9 q10, σ = [some (.ref b), some (.str u), some (.str v), some (.int c), some (.ref a), some (.ref m), q6, q7, q8, q9, q10]) ∧ Box b c0 H' ∧ FrB b H H' ∧
      ∃ ys trys, H' m = some (.lst ys) ∧ Paired (Tr K H') ys trys ∧ trys.length = i ∧ ∀ t ∈ trys, TryOk n0 n1 t
    refine ⟨PO 6, ⟨_, rfl, _, rfl, b, c0, _, rfl, hB0, by decide, by decide, fun H1 t1 hB1 f1 _ _ => ⟨_, _, rfl, rfl, _, rfl, b, c0, rfl, hB1, fun H2 z1 hB2 f2 => ⟨_, rfl, b, c0, rfl, hB2, fun H3 z2 hB3 f3 => ⟨_, _, rfl, rfl, by show 6 ≤ sizeLine; decide, fun g hg => ⟨g, rfl, ⟨_, SqL.of upd_same⟩, ?_⟩⟩⟩⟩⟩, ?_⟩
    · have f03 := ((f0.trans f1).trans f2).trans f3
      have hm3 : H3 m = some (.lst []) := f3 _ _ nbm (f2 _ _ nbm (f1 _ _ nbm upd_same))
      have nmg : m ≠ g := ne_of_none hm3 hg
      have ngb := hB3.nb hg
      have hg0 : H g = none := f03.free hg ngb
      let zs : List V := [.int 0, .int 1, .int (-1), .int (t1 - 200), .int z1, .int (0 - z2)]
      have hz : ∀ (j : Nat) (x : V), zs[j]? = some x → ∃ i, x = .int i := fun j x hx => by
        obtain ⟨i, _, e⟩ := ints_of (zs := [0, 1, -1, t1 - 200, z1, 0 - z2]) rfl (List.mem_of_getElem? hx)
        exact ⟨i, e⟩
      refine for_list (K := K) (a := g) (xs := zs) (fun i σ H' => PO i σ H' ∧ H' g = some (.lst zs)) ⟨⟨⟨_, _, _, _, _, rfl⟩, hB3.write ngb (hB3.nc hg), f03.new hg0, [], [], (upd_ne nmg).trans hm3, .nil, rfl, fun t ht => by cases ht⟩, upd_same⟩ (fun i σ H' _ z => SqL.of z.2) ?_ (fun σ H' z => z.1)
      rintro i x σ H4 hx ⟨⟨⟨q6, q7, q8, q9, q10, rfl⟩, hB4, f4, ys, trys, hm4, hp4, hl4, ht4⟩, hg4⟩
      obtain ⟨gap, rfl⟩ := hz _ _ hx
      -- last, values
      refine ⟨_, rfl, _, rfl, b, c0, _, rfl, hB4, by decide, by decide, fun H5 t2 hB5 f5 _ _ => ⟨_, rfl, b, c0, rfl, hB5, fun H6 z3 hB6 f6 => ⟨by show 5 ≤ sizeLine; decide, fun p hp => ?_⟩⟩⟩
      refine ⟨b, c0, p, _, rfl, hB6.write (hB6.nb hp) (hB6.nc hp), hB6.nb hp, upd_same, Nat.succ_pos _, by show 5 ≤ 1000; decide, fun H7 lastv hB7 f7 hlast => ?_⟩
      obtain ⟨last, _, rfl⟩ := ints_of (zs := [0, 3, 9, t2, z3]) rfl hlast
      refine fun d hd => ⟨_, _, rfl, ?_⟩
      have f47 : FrB b H4 H7 := ((f5.trans f6).trans (FrB.of (OW.Same.upd_new (Same.refl H6) hp))).trans f7
      have ndb := hB7.nb hd
      have hd4 : H4 d = none := f47.free hd ndb
      have hd0 : H d = none := f4.free hd4 ndb
      let Base : L2.St → Option V → Option V → Int → Hp → Prop := fun σ q7 q8 last H' => σ = [some (.ref b), some (.str u), some (.str v), some (.int c), some (.ref a), some (.ref m), some (.int gap), q7, q8, some (.int last), some (.ref d)] ∧ Box b c0 H' ∧ FrB b H4 H'
      have w4 : ∀ {H' o}, FrB b H4 H' → FrB b H4 (upd H' d o) := fun f => f.new hd4
      have wB : ∀ {H' o}, Box b c0 H' → FrB b H4 H' → Box b c0 (upd H' d o) := fun hb f => by
        obtain ⟨i', p', sd', n', cs', g1, g2, r'⟩ := id hB4
        exact hb.write ndb (hB4.nc hd4)
      -- for name in names
      refine ⟨fun σ H' => ∃ q7 q8, Base σ q7 q8 last H' ∧ ∃ x y, H' d = some (.dK (D2 n0 n1 x y)), ⟨_, rfl, a, rfl, ⟨_, SqL.of ((w4 f47) a _ nab (f4 a _ nab ha))⟩, ?_⟩, ?_⟩
      · refine for_list (K := K) (a := a) (xs := [.str n0, .str n1]) (fun i σ H' => ∃ q7 q8, Base σ q7 q8 last H' ∧ ((i = 0 ∧ H' d = some (.dK [])) ∨ (i = 1 ∧ ∃ x, H' d = some (.dK [(Sum.inr n0, .int x)])) ∨ (i = 2 ∧ ∃ x y, H' d = some (.dK (D2 n0 n1 x y)))))
          ⟨_, _, ⟨rfl, wB hB7 f47, w4 f47⟩, .inl ⟨rfl, upd_same⟩⟩ (fun i σ H' _ z => by
            obtain ⟨_, _, ⟨_, _, f⟩, _⟩ := z
            exact SqL.of (f a _ nab (f4 a _ nab ha))) ?_ (fun σ H' z => by
            obtain ⟨q7, q8, z1, z2⟩ := z
            rcases z2 with ⟨z, _⟩ | ⟨z, _⟩ | ⟨_, z⟩
            · cases z
            · cases z
            · exact ⟨q7, q8, z1, z⟩)
        rintro j x σ H8 hx ⟨q7, q8, ⟨rfl, hB8, f8⟩, z⟩
        refine ⟨_, rfl, _, rfl, _, rfl, _, rfl, b, c0, _, rfl, hB8, by decide, by decide, fun H9 t3 hB9 f9 _ _ => ⟨_, rfl, b, c0, rfl, hB9, fun H10 z4 hB10 f10 => ⟨by show 6 ≤ sizeLine; decide, fun p2 hp2 => ?_⟩⟩⟩
        refine ⟨b, c0, p2, _, rfl, hB10.write (hB10.nb hp2) (hB10.nc hp2), hB10.nb hp2, upd_same, Nat.succ_pos _, by show 6 ≤ 1000; decide, fun H11 nv hB11 f11 hnv => ?_⟩
        obtain ⟨n, _, rfl⟩ := ints_of (zs := [0, 5, last, -4, t3, z4]) rfl hnv
        have f811 : FrB b H8 H11 := ((f9.trans f10).trans (FrB.of (OW.Same.upd_new (Same.refl H10) hp2))).trans f11
        have put : ∀ {kvs : List (Key × V)} {nm : Str}, kvs.length ≤ 2 → H8 d = some (.dK kvs) → DPut H11 d (.str nm) (.int n) (upd H11 d (.dK (putK kvs (Sum.inr nm) (.int n)))) := fun {kvs nm} h1 h2 => DPut.k (k := Sum.inr nm) (f811 d _ ndb h2) (small1000 (by omega))
        rcases two_at hx with ⟨rfl, rfl⟩ | ⟨rfl, rfl⟩
        · rcases z with ⟨_, z⟩ | ⟨z, _⟩ | ⟨z, _⟩
          · exact ⟨_, rfl, _, rfl, d, _, rfl, put (Nat.zero_le _) z, _, _, ⟨rfl, wB hB11 (f8.trans f811), w4 (f8.trans f811)⟩, .inr (.inl ⟨rfl, n, upd_same⟩)⟩
          · cases z
          · cases z
        · rcases z with ⟨z, _⟩ | ⟨_, x1, z⟩ | ⟨z, _⟩
          · cases z
          · exact ⟨_, rfl, _, rfl, d, _, rfl, put (by show 1 ≤ 2; decide) z, _, _, ⟨rfl, wB hB11 (f8.trans f811), w4 (f8.trans f811)⟩, .inr (.inr ⟨rfl, x1, n, by rw [upd_same, put1 N.ne]⟩)⟩
          · cases z
      · rintro σ H8 ⟨q7, q8, ⟨rfl, hB8, f8⟩, x, y, hd8⟩
        -- base
        obtain ⟨bs, hbs⟩ := at2 N hv x y last
        refine ⟨fun σ H' => H' = H8 ∧ Base σ q7 (some (.int bs)) last H8, ?_, ?_⟩
        · refine ⟨_, rfl, rfl, _, rfl, ?_⟩
          rcases hbs with ⟨e, rfl⟩ | ⟨h1, e, rfl⟩ | ⟨h1, h2, h3⟩
          · rw [decide_eq_true (congrArg V.str e)]
            exact ⟨rfl, rfl, hB8, f8⟩
          · rw [decide_eq_false (fun z => h1 (V.str.inj z))]
            refine ⟨_, rfl, rfl, _, rfl, ?_⟩
            rw [decide_eq_true (congrArg V.str e)]
            exact ⟨_, rfl, rfl, rfl, hB8, f8⟩
          · rw [decide_eq_false (fun z => h1 (V.str.inj z))]
            refine ⟨_, rfl, rfl, _, rfl, ?_⟩
            rw [decide_eq_false (fun z => h2 (V.str.inj z))]
            exact ⟨_, rfl, _, rfl, d, V.int bs, rfl, by rw [← h3]; exact DGet.k (k := Sum.inr v) hd8, rfl, rfl, hB8, f8⟩
        · rintro σ H9 ⟨rfl, rfl, _, _⟩
          have ha8 : SqL K H9 a ([n0, n1].map V.str) := SqL.of (f8 a _ nab (f4 a _ nab ha))
          -- the border
          refine ⟨fun σ H' => ∃ last', Base σ q7 (some (.int bs)) last' H' ∧ ∃ x y, H' d = some (.dK (D2 n0 n1 x y)), ?_, ?_⟩
          · have keep : ∀ last', ∃ l, Base [some (.ref b), some (.str u), some (.str v), some (.int c), some (.ref a), some (.ref m), some (.int gap), q7, some (.int bs), some (.int last'), some (.ref d)] q7 (some (.int bs)) l H9 ∧ ∃ x y, H9 d = some (.dK (D2 n0 n1 x y)) := fun l => ⟨l, ⟨rfl, hB8, f8⟩, x, y, hd8⟩
            have put : ∀ {nm : Str} {z : Int}, nm ∈ [n0, n1] → DPut H9 d (.str nm) (.int z) (upd H9 d (.dK (putK (D2 n0 n1 x y) (Sum.inr nm) (.int z)))) ∧ ∃ l, Base [some (.ref b), some (.str u), some (.str v), some (.int c), some (.ref a), some (.ref m), some (.int gap), q7, some (.int bs), some (.int last), some (.ref d)] q7 (some (.int bs)) l (upd H9 d (.dK (putK (D2 n0 n1 x y) (Sum.inr nm) (.int z)))) ∧ ∃ x' y', (upd H9 d (.dK (putK (D2 n0 n1 x y) (Sum.inr nm) (.int z)))) d = some (.dK (D2 n0 n1 x' y')) := fun {nm z} h => by
              have h' : nm = n0 ∨ nm = n1 := by simpa using h
              obtain ⟨x', y', e⟩ := put2 (x := x) (y := y) N.ne h' z
              exact ⟨DPut.k (k := Sum.inr nm) hd8 (small1000 (by show 2 ≤ 1000; decide)), last, ⟨rfl, wB hB8 f8, w4 f8⟩, x', y', by rw [upd_same, e]⟩
            refine ⟨_, rfl, _, rfl, a, _, rfl, .inl ha8, rfl, flat_strs _, _, rfl, ?_⟩
            rw [inV_strs]
            refine ite2 (fun e1 => ?_) (fun e1 => ?_)
            · have p := put (z := bs + c + gap) (of_decide_eq_true e1)
              exact ⟨_, rfl, _, rfl, _, _, rfl, rfl, _, rfl, _, _, rfl, rfl, _, rfl, _, rfl, d, _, rfl, p.1, p.2⟩
            · refine ⟨_, rfl, rfl, _, rfl, ?_⟩
              refine ite2 (fun e2 => ⟨_, rfl, _, rfl, _, _, rfl, rfl, _, rfl, _, _, rfl, rfl, _, _, rfl, rfl, _, rfl, ite2 (fun e3 => ⟨_, rfl, _, rfl, _, _, rfl, rfl, _, rfl, _, _, rfl, rfl, _, ⟨rfl, hB8, f8⟩, x, y, hd8⟩) (fun e3 => ?_)⟩) (fun e2 => ?_)
              all_goals
                refine ⟨_, rfl, _, rfl, a, _, rfl, .inl ha8, rfl, flat_strs _, _, rfl, ?_⟩
                rw [inV_strs]
                refine ite2 (fun e4 => ?_) (fun e4 => keep last)
                refine ⟨_, rfl, rfl, _, rfl, ?_⟩
                refine ite2 (fun e5 => ?_) (fun e5 => ?_)
                · have p := put (z := 0 - c - gap) (of_decide_eq_true e4)
                  exact ⟨_, rfl, _, _, rfl, rfl, _, rfl, _, _, rfl, rfl, _, rfl, _, rfl, d, _, rfl, p.1, p.2⟩
                · have p := put (z := last - c - gap) (of_decide_eq_true e4)
                  exact ⟨_, rfl, _, rfl, _, _, rfl, rfl, _, rfl, _, _, rfl, rfl, _, rfl, _, rfl, d, _, rfl, p.1, p.2⟩
          · rintro σ H10 ⟨last', ⟨rfl, hB10, f10⟩, x', y', hd10⟩
            have hm10 : H10 m = some (.lst ys) := f10 m _ nbm hm4
            have lys : ys.length = trys.length := Paired.len hp4
            have i6 : i < 6 := (List.getElem?_eq_some_iff.mp hx).1
            refine ⟨_, rfl, .inl ⟨rfl, _, SqL.of hm10⟩, _, rfl, _, rfl, (by show 2 ≤ sizeLine; decide), fun t ht => ?_⟩
            have hmt : (upd H10 t (.tup [.ref d, .int last'])) m = some (.lst ys) := (upd_ne (ne_of_none hm10 ht)).trans hm10
            have ntb := hB10.nb ht
            have ntm : m ≠ t := ne_of_none hm10 ht
            have ht0 : H t = none := (f4.trans f10).free ht ntb
            have sT : Same H10 (upd H10 t (.tup [.ref d, .int last'])) := OW.Same.upd_new (Same.refl H10) ht
            obtain ⟨i', p', sd', n', cs', g1, g2, r'⟩ := id hB4
            have tr1 : ∀ v t', Tr K H4 v t' → Tr K (upd (upd H10 t (.tup [.ref d, .int last'])) m (.lst (ys ++ [.ref t]))) v t' := fun v t' q => ((q.frB g1 f10).mono sT).frB hmt FrB.write
            refine ⟨m, ys, _, rfl, rfl, hmt, small1000 (by omega), ?_⟩
            have ngm : g ≠ m := nmg.symm
            have hg10 : H10 g = some (.lst zs) := f10 g _ ngb hg4
            refine ⟨⟨⟨_, _, _, _, _, rfl⟩, (hB10.write ntb (hB10.nc ht)).write nbm (hB.nc hm), ((f4.trans f10).new ht0).new hm, ys ++ [.ref t], trys ++ [(D2 n0 n1 x' y', last')], upd_same, Paired.snoc (Paired.mapP hp4 fun v t' q => tr1 v t' q) ?_, by rw [List.length_append, hl4]; rfl, fun t' h => ?_⟩, ?_⟩
            · have q : Tr K (upd H10 t (.tup [.ref d, .int last'])) (.ref t) (D2 n0 n1 x' y', last') := ⟨t, d, rfl, SqT.of upd_same, sT _ _ hd10⟩
              exact q.frB hmt FrB.write
            · rcases List.mem_append.mp h with h | h
              · exact ht4 t' h
              · rw [List.mem_singleton.mp h]
                exact ⟨x', y', rfl⟩
            · exact (upd_ne ngm).trans (sT _ _ hg10)
    · rintro σ H4 ⟨⟨q6, q7, q8, q9, q10, rfl⟩, hB4, f4, ys, trys, hm4, hp4, hl4, ht4⟩
      exact ⟨_, rfl, k _ _ ys trys hB4 f4 hm hm4 hp4 hl4 ht4⟩
end
end K02

set_option Elab.async false
set_option linter.all false
set_option maxRecDepth 100000
set_option maxHeartbeats 4000000
namespace K02
open PySem L2 OW TL
def valAt (b : Str) (t : Try) : Int := if b = "0" then 0 else if b = "$" then t.2 else match valV t.1 (Sum.inr b) with | some (.int n) => n | _ => 0
def gapF (u v : Str) (t : Try) : Int := valAt u t - valAt v t
theorem at_val {b : Str} {t : Try} {n : Int} (h : At b t.1 t.2 n) : valAt b t = n := by
  unfold valAt
  rcases h with ⟨rfl, rfl⟩ | ⟨h1, rfl, rfl⟩ | ⟨h1, h2, h3⟩
  · rw [if_pos rfl]
  · rw [if_neg h1, if_pos rfl]
  · rw [if_neg h1, if_neg h2, h3]
theorem at4 {n0 n1 b : Str} {t : Try} (N : NamesOk n0 n1) (hb : Of4 n0 n1 b) (ht : TryOk n0 n1 t) : At b t.1 t.2 (valAt b t) := by
  obtain ⟨x, y, e⟩ := ht
  obtain ⟨n, hn⟩ := at2 N hb x y t.2
  rw [← e] at hn
  rw [at_val hn]
  exact hn
theorem due_of {rs : List Str} {u v t : Str} {cost : Int} {f : Int → Bool} {trys : List Try} (h : Says rs u v t cost f) (ha : ∀ e ∈ trys, At u e.1 e.2 (valAt u e) ∧ At v e.1 e.2 (valAt v e)) : Due rs t cost trys ((trys.map (gapF u v)).map f) := by
  obtain ⟨sg, p, h1, h2, h3⟩ := h
  refine ⟨sg, p, h1, h2, fun i e d he hd => ?_⟩
  rw [List.getElem?_map, List.getElem?_map, he] at hd
  have hd := Option.some.inj hd
  obtain ⟨a1, a2⟩ := ha e (List.mem_of_getElem? he)
  rcases h3 with ⟨e1, e2, e3⟩ | ⟨e1, e2, e3⟩
  · exact ⟨valAt u e, valAt v e, by rw [e1]; exact a1, by rw [e2]; exact a2, by rw [e3, ← hd]; rfl⟩
  · exact ⟨valAt v e, valAt u e, by rw [e1]; exact a2, by rw [e2]; exact a1, by rw [e3, ← hd]; rfl⟩
theorem says_swap {rs : List Str} {u v t : Str} {cost : Int} {f g : Int → Bool} (h : Says rs v u t cost f) (e : ∀ x, f (-x) = g x) : Says rs u v t cost g := by
  obtain ⟨sg, p, h1, h2, h3⟩ := h
  refine ⟨sg, p, h1, h2, h3.symm.imp (fun ⟨e1, e2, e3⟩ => ⟨e1, e2, fun x y => ?_⟩) (fun ⟨e1, e2, e3⟩ => ⟨e1, e2, fun x y => ?_⟩)⟩
  · rw [e3, ← e, show -(x - y) = y - x by omega]
  · rw [e3, ← e, show -(x - y) = y - x by omega]
theorem wCost_swap (c : Int) : wCost (0 - c - 1) = wCost c := by
  unfold wCost minI absI
  repeat' split
  all_goals omega
theorem get_int {r : List Int} {i : Nat} {x : V} (h : (r.map V.int)[i]? = some x) : x = .int (r.getD i 0) ∧ i < r.length := by
  rw [List.getElem?_map] at h
  cases e : r[i]? with
  | none =>
    rw [e] at h
    cases h
  | some u =>
    rw [e] at h
    have h' := Option.some.inj h
    refine ⟨?_, (List.getElem?_eq_some_iff.mp e).1⟩
    rw [← h', List.getD_eq_getElem?_getD, e]
    rfl
theorem range_ints {gs : List Int} (f : Int → Bool) : (List.range (gs.map V.int).length).map (fun i => V.bl (f (gs.getD i 0))) = (gs.map f).map V.bl := by
  refine List.ext_getElem? fun i => ?_
  rw [List.getElem?_map, List.getElem?_map, List.getElem?_map]
  by_cases h : i < gs.length
  · rw [List.getElem?_range (by rw [List.length_map]; exact h), List.getElem?_eq_getElem h]
    show some (V.bl (f (gs.getD i 0))) = some (V.bl (f gs[i]))
    rw [List.getD_eq_getElem?_getD, List.getElem?_eq_getElem h]
    rfl
  · rw [List.getElem?_eq_none (by rw [List.length_range, List.length_map]; omega), List.getElem?_eq_none (by omega)]
    rfl
/-- a list of answers, one for each gap -/
theorem lc_gaps {K : PySem.W.Frag} {a : Addr} {gs : List Int} {g : TG} {te : TE} {vs : List Nat} {σ : L2.St} {H1 : Hp} {D : Addr} {Qd : Hp → Prop} (f : Int → Bool) (hn : gs.length ≤ 1000) (ha : SqL K H1 a (gs.map V.int)) (hD : H1 D = none)
    (hs : ∀ (z : Int) (H : Hp) (Q' : VK), (∀ H4, Same H H4 → Q' (.bl (f z)) H4) → g (.int z) (wipe σ vs) H fun σ2 H2 => wipe σ2 vs = wipe σ vs ∧ te σ2 H2 Q')
    (hd : ∀ H, Same H1 H → H D = some (.lst ((gs.map f).map V.bl)) → Qd H) :
    ∃ W : Nat → Nat → Hp → Prop, (∃ m, W 0 m (upd H1 D (.lst []))) ∧ ∀ i m H, W i m H →
      ((Itl K a).stop i H ∧ Qd H) ∨ ((Itl K a).go i H ∧ ∃ Nx : Hp → Prop, (∀ H', Nx H' → ∃ m', m' < m ∧ W (i + 1) m' H') ∧ ∀ x H', (Itl K a).yld i H x H' → g x (wipe σ vs) H' fun σ2 H2 => wipe σ2 vs = wipe σ vs ∧ tYes σ2 H2 fun b H3 =>
        if b = true then te σ2 H3 fun y H4 => ∃ acc, H4 D = some (.lst acc) ∧ acc.length < sizeLine ∧ Nx (upd H4 D (.lst (acc ++ [y]))) else Nx H3) := by
  refine lc_map (n := (gs.map V.int).length) (Y := YAt (gs.map V.int)) (fun i => .bl (f (gs.getD i 0))) (by rw [List.length_map]; omega) ((walk_list (K := K) (a := a) (xs := gs.map V.int)).mono (fun H' s' => s'.seq ha) (fun _ _ _ _ _ _ y => y)) hD ?_ ?_
  · rintro i x H' H'' hi s' ⟨rfl, hx⟩ Q' k'
    obtain ⟨rfl, _⟩ := get_int hx
    exact hs _ _ Q' k'
  · intro H s' hDD
    rw [range_ints] at hDD
    exact hd H s' hDD
def spPair : Sp := fun vs H Q _ => ∃ (b c0 : Addr) (u v : Str) (c : Int) (an ar : Addr) (n0 n1 : Str) (rs : List Str), vs = [.ref b, .str u, .str v, .int c, .ref an, .ref ar] ∧ Box b c0 H ∧ an ≠ b ∧ ar ≠ b ∧ H an = some (.lst [.str n0, .str n1]) ∧ H ar = some (.lst (rs.map V.str)) ∧ NamesOk n0 n1 ∧ PairOk rs u v ∧ Of4 n0 n1 u ∧ Of4 n0 n1 v ∧
  ∀ H', Box b c0 H' → FrB b H H' → Q (.bl true) H'
section
variable {P : Program} {w : World} {K : PySem.W.Frag} {mg : Str → Option Value} {base : Heap}
theorem ok_law_pair (T : Txt K w mg) : FnOk P w K mg base CX0 11 T.a_law_pair T.d_law_pair ["bag", "u", "v", "c", "names", "ranges"] spPair := by
  refine T.f_law_pair.ok sc_law_pair (fun vs H Q E h => ?_) (fun cdv A outer s H vs Q E hr h => ?_)
  · obtain ⟨b, c0, u, v, c, an, ar, n0, n1, rs, rfl, _⟩ := h
    rfl
  · obtain ⟨b, c0, u, v, c, an, ar, n0, n1, rs, rfl, hB, nab, nrb, han, har, N, ok, hu, hv, k⟩ := h
    refine ⟨_, (pss_cons (ps_set (i := 6) sc_law_pair.nd rfl (by first | exact Or.inl rfl | exact Or.inr rfl) (pe_call (ok_law_tries T) (hr.mono (by decide)) rfl T.g_law_tries T.f_law_tries.kp T.b_law_tries .nil pass0 (pa_cons (pv 0) (pa_cons (pv 1) (pa_cons (pv 2) (pa_cons (pv 3) (pa_cons (pv 4) pa_nil)))))))
    (pss_cons (ps_setLc (i := 7) rfl sc_law_pair.nd rfl rfl (sw_true rfl rfl rfl (by decide +kernel)) (own := [("values", 16), ("last", 17)]) (g := gTup K 2 (gCons (gName 16) (gCons (gName 17) gNil))) (pi_list (pv 6)) (blkOk_by (N := N_law_pair) (sc := defScope s_law_pair) (by decide +kernel)) (fun _ _ _ _ _ => (pg_tup (by rfl) (pgs_cons (pg_name (i := 16) sc_law_pair.nd rfl (Or.inl rfl)) (pgs_cons (pg_name (i := 17) sc_law_pair.nd rfl (Or.inl rfl)) pgs_nil)))) (fun _ _ _ _ _ => pts_nil) (fun _ _ _ _ _ => (pe_call (ok_law_gap T) (hr.mono (by decide)) rfl T.g_law_gap T.f_law_gap.kp T.b_law_gap .nil pass0 (pa_cons (pv 1) (pa_cons (pv 2) (pa_cons (pv 16) (pa_cons (pv 17) pa_nil)))))))
    (pss_cons (ps_set (i := 8) sc_law_pair.nd rfl (by first | exact Or.inl rfl | exact Or.inr rfl) (pe_callB (call_min2 rfl) (by rfl) T.n_min (by decide +kernel) (pa_cons (pe_callB call_abs (by rfl) T.n_abs (by decide +kernel) (pa_cons (pv 3) pa_nil)) (pa_cons (pe_callB call_abs (by rfl) T.n_abs (by decide +kernel) (pa_cons (pe_op op_add (pv 3) pe_int) pa_nil)) pa_nil))))
    (pss_cons (ps_par (i := 10) (j := 11) (by rfl) sc_law_pair.nd rfl rfl (by decide) rfl rfl (pa_cons (pe_call (ok_law_ways T) (hr.mono (by decide)) rfl T.g_law_ways T.f_law_ways.kp T.b_law_ways .nil pass0 (pa_cons (pv 0) (pa_cons (pv 1) (pa_cons (pv 2) (pa_cons (pv 3) pa_nil))))) (pa_cons (pe_call (ok_law_ways T) (hr.mono (by decide)) rfl T.g_law_ways T.f_law_ways.kp T.b_law_ways .nil pass0 (pa_cons (pv 0) (pa_cons (pv 2) (pa_cons (pv 1) (pa_cons (pe_op op_sub (pe_op op_sub pe_int (pv 3)) pe_int) pa_nil))))) pa_nil)) (by rfl))
    (pss_cons (ps_if (pt_not (pt_val (pe_call (ok_law_alike T) (hr.mono (by decide)) rfl T.g_law_alike T.f_law_alike.kp T.b_law_alike .nil pass0 (pa_cons (pv 10) (pa_cons (pv 5) (pa_cons (pv 6) (pa_cons (pv 8) (pa_cons (pe_lc (own := [("gap", 18)]) (g := gName 18) rfl sc_law_pair.nd (pi_list (pv 7)) (blkOk_by (N := N_law_pair) (sc := defScope s_law_pair) (by decide +kernel)) (fun _ _ _ _ _ => pg_name (i := 18) sc_law_pair.nd rfl (Or.inl rfl)) (fun _ _ _ _ _ => pts_nil) (fun _ _ _ _ _ => (pe_cmpR op_le (pv 18) (pv 3) (nomark _)))) pa_nil))))))))
      (pss_one (ps_ret pe_bl))
      pss_nil)
    (pss_cons (ps_if (pt_not (pt_val (pe_call (ok_law_alike T) (hr.mono (by decide)) rfl T.g_law_alike T.f_law_alike.kp T.b_law_alike .nil pass0 (pa_cons (pv 11) (pa_cons (pv 5) (pa_cons (pv 6) (pa_cons (pv 8) (pa_cons (pe_lc (own := [("gap", 18)]) (g := gName 18) rfl sc_law_pair.nd (pi_list (pv 7)) (blkOk_by (N := N_law_pair) (sc := defScope s_law_pair) (by decide +kernel)) (fun _ _ _ _ _ => pg_name (i := 18) sc_law_pair.nd rfl (Or.inl rfl)) (fun _ _ _ _ _ => pts_nil) (fun _ _ _ _ _ => (pe_cmpR op_gt (pv 18) (pv 3) (nomark _)))) pa_nil))))))))
      (pss_one (ps_ret pe_bl))
      pss_nil)
    (pss_cons (ps_par (i := 12) (j := 13) (by rfl) sc_law_pair.nd rfl rfl (by decide) rfl rfl (pa_cons (pe_lst pa_nil) (pa_cons (pe_lst pa_nil) pa_nil)) (by rfl))
    (Evl.pss_cut (ps_for PassesOwn.never rfl (pi_list (pe_lst (pa_cons pe_int (pa_cons (pe_op op_sub pe_int (pv 3)) (pa_cons (pv 3) (pa_cons (pe_op op_sub (pe_call (ok_law_draw T) (hr.mono (by decide)) rfl T.g_law_draw T.f_law_draw.kp T.b_law_draw .nil pass0 (pa_cons (pv 0) (pa_cons pe_int pa_nil))) pe_int) pa_nil)))))) (pg_name (i := 9) sc_law_pair.nd rfl (by first | exact Or.inl rfl | exact Or.inr rfl))
      (pss_cons (ps_par (i := 14) (j := 15) (by rfl) sc_law_pair.nd rfl rfl (by decide) rfl rfl (pa_cons (pe_call (ok_law_word T) (hr.mono (by decide)) rfl T.g_law_word T.f_law_word.kp T.b_law_word .nil pass0 (pa_cons (pv 1) (pa_cons (pv 9) pa_nil))) (pa_cons (pe_call (ok_law_word T) (hr.mono (by decide)) rfl T.g_law_word T.f_law_word.kp T.b_law_word .nil pass0 (pa_cons (pv 2) (pa_cons (pe_op op_add (pv 9) (pv 3)) pa_nil))) pa_nil)) (by rfl))
      (pss_one (ps_if (PW.pt (pw_and (pt_truth (pv 14) (by intro _; rfl)) (pw_and1 (pt_truth (pv 15) (by intro _; rfl)))))
        (pss_cons (ps_expr (pe_bm PySem.F.plainAttrs_list PySem.F.slot_list_extend PySem.F.type_list_extend mt_extend (pv 12) (pa_cons (pe_lst (pa_cons (pe_op op_add_str (pe_op op_add_str (pv 14) pe_str) (pv 15)) (pa_cons (pe_op op_add_str (pe_op op_add_str (pv 15) pe_str) (pv 14)) pa_nil))) pa_nil)))
        (pss_one (ps_expr (pe_bm PySem.F.plainAttrs_list PySem.F.slot_list_append PySem.F.type_list_append mt_append (pv 13) (pa_cons (pe_op op_add_str (pe_op op_add_str (pv 14) pe_str) (pv 15)) pa_nil)))))
        pss_nil))))
    (pss_cons (ps_if (pt_not (pt_val (pe_call (ok_law_alike T) (hr.mono (by decide)) rfl T.g_law_alike T.f_law_alike.kp T.b_law_alike .nil pass0 (pa_cons (pv 12) (pa_cons (pv 5) (pa_cons (pv 6) (pa_cons (pe_callB call_abs (by rfl) T.n_abs (by decide +kernel) (pa_cons (pv 3) pa_nil)) (pa_cons (pe_lc (own := [("gap", 18)]) (g := gName 18) rfl sc_law_pair.nd (pi_list (pv 7)) (blkOk_by (N := N_law_pair) (sc := defScope s_law_pair) (by decide +kernel)) (fun _ _ _ _ _ => pg_name (i := 18) sc_law_pair.nd rfl (Or.inl rfl)) (fun _ _ _ _ _ => pts_nil) (fun _ _ _ _ _ => (pe_cmpR op_eq (pv 18) (pv 3) (nomark _)))) pa_nil))))))))
      (pss_one (ps_ret pe_bl))
      pss_nil)
    (pss_one (ps_ret (pe_call (ok_law_alike T) (hr.mono (by decide)) rfl T.g_law_alike T.f_law_alike.kp T.b_law_alike .nil pass0 (pa_cons (pv 13) (pa_cons (pv 5) (pa_cons (pv 6) (pa_cons (pe_callB (call_min2 rfl) (by rfl) T.n_min (by decide +kernel) (pa_cons (pe_callB call_abs (by rfl) T.n_abs (by decide +kernel) (pa_cons (pv 3) pa_nil)) (pa_cons (pe_callB call_abs (by rfl) T.n_abs (by decide +kernel) (pa_cons (pe_op op_sub (pv 3) pe_int) pa_nil)) pa_nil))) (pa_cons (pe_lc (own := [("gap", 18)]) (g := gName 18) rfl sc_law_pair.nd (pi_list (pv 7)) (blkOk_by (N := N_law_pair) (sc := defScope s_law_pair) (by decide +kernel)) (fun _ _ _ _ _ => pg_name (i := 18) sc_law_pair.nd rfl (Or.inl rfl)) (fun _ _ _ _ _ => pts_nil) (fun _ _ _ _ _ => (pe_cmpR op_ge (pv 18) (pv 3) (nomark _)))) pa_nil))))))))))))))))), ?_⟩
    refine ⟨_, rfl, _, rfl, _, rfl, _, rfl, _, rfl, b, c0, u, v, c, an, n0, n1, rfl, hB, nab, han, N, hu, hv, fun H1 tr ys trys hB1 f1 htr0 htr hp hl6 hok => ?_⟩
    have ntb := hB.nb htr0
    have hat : ∀ e ∈ trys, At u e.1 e.2 (valAt u e) ∧ At v e.1 e.2 (valAt v e) := fun e he => ⟨at4 N hu (hok e he), at4 N hv (hok e he)⟩
    have lys : ys.length = 6 := (Paired.len hp).trans hl6
    -- the gaps
    refine ⟨_, rfl, tr, rfl, ⟨_, SqL.of htr⟩, fun gl hgl0 => ?_⟩
    refine lc_map (n := ys.length) (Y := YAt ys) (fun i => .int ((trys.map (gapF u v)).getD i 0)) (by omega) ((walk_list (K := K) (a := tr) (xs := ys)).mono (fun H' s' => s'.seq (SqL.of htr)) (fun _ _ _ _ _ _ y => y)) hgl0 ?_ ?_
    · rintro i x H' H'' hi s' ⟨rfl, hx⟩ Q' k'
      obtain ⟨e, he⟩ : ∃ e, trys[i]? = some e := ⟨_, List.getElem?_eq_getElem (by omega)⟩
      obtain ⟨y, hy, a, d, rfl, ha, hd⟩ := paired_get hp he
      rw [hx] at hy
      cases hy
      have ge : (trys.map (gapF u v)).getD i 0 = valAt u e - valAt v e := by
        rw [List.getD_eq_getElem?_getD, List.getElem?_map, he]
        rfl
      obtain ⟨a1, a2⟩ := hat e (List.mem_of_getElem? he)
      refine ⟨a, _, rfl, same_t s' ha, rfl, _, _, rfl, _, _, rfl, rfl, rfl, _, rfl, _, rfl, _, rfl, _, rfl, u, v, d, e.1, e.2, _, _, rfl, s' _ _ hd, a1, a2, ?_⟩
      rw [← ge]
      exact k' _ (Same.refl _)
    · intro H2 s2 hgl
      have hgl : H2 gl = some (.lst ((trys.map (gapF u v)).map V.int)) := by
        rw [hgl]
        refine congrArg (fun z => some (HO.lst z)) (List.ext_getElem? fun i => ?_)
        rw [List.getElem?_map, List.getElem?_map]
        by_cases h : i < trys.length
        · rw [List.getElem?_range (by omega), List.getElem?_eq_getElem (l := trys.map (gapF u v)) (by rw [List.length_map]; exact h)]
          show some (V.int ((trys.map (gapF u v)).getD i 0)) = _
          rw [List.getD_eq_getElem?_getD, List.getElem?_eq_getElem (l := trys.map (gapF u v)) (by rw [List.length_map]; exact h)]
          rfl
        · rw [List.getElem?_eq_none (by rw [List.length_range]; omega), List.getElem?_eq_none (by rw [List.length_map]; omega)]
          rfl
      have ngb := hB1.nb hgl0
      have hB2 := hB1.same s2
      obtain ⟨bi, bp, bsd, bn, bcs, hb2, _⟩ := id hB2
      have hp2 : Paired (Tr K H2) ys trys := Paired.mapP hp fun _ _ q => q.mono s2
      have G : ∀ {H' : Hp}, FrB b H2 H' → H' gl = some (.lst ((trys.map (gapF u v)).map V.int)) ∧ H' tr = some (.lst ys) ∧ Paired (Tr K H') ys trys ∧ H' ar = some (.lst (rs.map V.str)) := fun f =>
        ⟨f _ _ ngb hgl, f _ _ ntb (s2 _ _ htr), Paired.mapP hp2 fun _ _ q => q.frB hb2 f, f _ _ nrb (s2 _ _ (f1 _ _ nrb har))⟩
      have f12 : FrB b H H2 := f1.trans (FrB.of s2)
      -- cost, ways, contrary
      refine ⟨_, rfl, c, rfl, _, rfl, _, _, rfl, rfl, _, rfl, _, _, rfl, ?_⟩
      refine ⟨_, rfl, _, rfl, _, rfl, _, rfl, b, c0, u, v, c, rs, rfl, hB2, ok, fun H3 w1 ts1 hB3 f3 hw10 hw1 hl1 hs1 => ⟨_, rfl, _, rfl, _, rfl, _, rfl, _, _, rfl, rfl, _, _, rfl, rfl, b, c0, v, u, _, rs, rfl, hB3, ok.symm, fun H4 w2 ts2 hB4 f4 hw20 hw2 hl2 hs2 => ⟨_, _, rfl, ?_⟩⟩⟩
      have nw1 := hB2.nb hw10
      have nw2 := hB3.nb hw20
      have hw1' := f4 _ _ nw1 hw1
      have F4 : FrB b H2 H4 := f3.trans f4
      refine ⟨_, rfl, _, rfl, _, rfl, _, rfl, _, rfl, gl, rfl, ⟨_, SqL.of (G F4).1⟩, fun D1 hD1 => ?_⟩
      refine lc_gaps (gs := trys.map (gapF u v)) (fun g => decide (g ≤ c)) (by rw [List.length_map]; omega) (SqL.of (G F4).1) hD1 (fun z H' Q' k' => ⟨rfl, _, rfl, _, rfl, _, _, rfl, rfl, k' _ (Same.refl _)⟩) ?_
      intro HD1 sD1 lD1
      have FD1 := (F4).trans (FrB.of sD1)
      refine ⟨w1, ar, tr, D1, ts1, rs, ys, trys, wCost c, _, rfl, sD1 _ _ hw1', SqL.of (G FD1).2.2.2, SqL.of (G FD1).2.1, (G FD1).2.2.1, SqL.of lD1, by rw [List.length_map, List.length_map], by omega, fun t ht => due_of (hs1 t ht) hat, fun HXD1 sXD1 => ?_⟩
      refine ⟨_, rfl, ?_⟩
      have F5 : FrB b H2 HXD1 := FD1.trans (FrB.of sXD1)
      have hB5 := (hB4.same sD1).same sXD1
      have hw2' := sXD1 _ _ (sD1 _ _ hw2)
      have says2 : ∀ t ∈ ts2, Says rs u v t (wCost c) (fun g => decide (g > c)) := fun t ht => says_swap (by rw [← wCost_swap c]; exact hs2 t ht) fun x => by
        show decide (-x ≤ 0 - c - 1) = decide (x > c)
        exact dec_congr (by omega)
      refine ⟨_, rfl, _, rfl, _, rfl, _, rfl, _, rfl, gl, rfl, ⟨_, SqL.of (G F5).1⟩, fun D2x hD2x => ?_⟩
      refine lc_gaps (gs := trys.map (gapF u v)) (fun g => decide (g > c)) (by rw [List.length_map]; omega) (SqL.of (G F5).1) hD2x (fun z H' Q' k' => ⟨rfl, _, rfl, _, rfl, _, _, rfl, rfl, k' _ (Same.refl _)⟩) ?_
      intro HD2x sD2x lD2x
      have FD2x := (F5).trans (FrB.of sD2x)
      refine ⟨w2, ar, tr, D2x, ts2, rs, ys, trys, wCost c, _, rfl, sD2x _ _ hw2', SqL.of (G FD2x).2.2.2, SqL.of (G FD2x).2.1, (G FD2x).2.2.1, SqL.of lD2x, by rw [List.length_map, List.length_map], by omega, fun t ht => due_of (says2 t ht) hat, fun HXD2x sXD2x => ?_⟩
      refine ⟨_, rfl, ?_⟩
      have F6 : FrB b H2 HXD2x := FD2x.trans (FrB.of sXD2x)
      have hB6 := (hB5.same sD2x).same sXD2x
      generalize HXD2x = H6 at F6 hB6
      -- equal, more
      refine ⟨by decide, fun eq heq => ⟨by decide, fun mo hmo => ⟨_, _, rfl, ?_⟩⟩⟩
      have neb := hB6.nb heq
      have hB6' := hB6.write neb (hB6.nc heq) (o := .lst [])
      have nmb := hB6'.nb hmo
      have nem : eq ≠ mo := ne_of_none (upd_same (H := H6) (a := eq) (o := .lst [])) hmo
      have hB7 := hB6'.write nmb (hB6'.nc hmo) (o := .lst [])
      have s67 : Same H6 (upd (upd H6 eq (.lst [])) mo (.lst [])) := OW.Same.upd_new (OW.Same.upd_new (Same.refl _) heq) ((OW.Same.upd_new (o := .lst []) (Same.refl H6) heq).free hmo)
      have hmo6 : H6 mo = none := (OW.Same.upd_new (o := .lst []) (Same.refl H6) heq).free hmo
      have he7 : (upd (upd H6 eq (.lst [])) mo (.lst [])) eq = some (.lst []) := (upd_ne nem).trans upd_same
      have hm7 : (upd (upd H6 eq (.lst [])) mo (.lst [])) mo = some (.lst []) := upd_same
      generalize upd (upd H6 eq (.lst [])) mo (.lst []) = H7 at hB7 s67 he7 hm7
      let Core : Nat → Hp → Prop := fun n H' => Box b c0 H' ∧ FrB b H6 H' ∧ ∃ es ms : List Str, H' eq = some (.lst (es.map V.str)) ∧ H' mo = some (.lst (ms.map V.str)) ∧ es.length ≤ 2 * n ∧ ms.length ≤ n ∧ (∀ t ∈ es, Says rs u v t (absI c) (fun g => decide (g = c))) ∧ ∀ t ∈ ms, Says rs u v t (minI (absI c) (absI (c - 1))) (fun g => decide (g ≥ c))
      let Pv : Nat → L2.St → Hp → Prop := fun n σ H' => (∃ q9 q14 q15, σ = [some (.ref b), some (.str u), some (.str v), some (.int c), some (.ref an), some (.ref ar), some (.ref tr), some (.ref gl), some (.int (wCost c)), q9, some (.ref w1), some (.ref w2), some (.ref eq), some (.ref mo), q14, q15, none, none, none]) ∧ Core n H'
      refine ⟨Pv 4, ⟨_, rfl, _, _, rfl, rfl, _, rfl, _, rfl, b, c0, _, rfl, hB7, by decide, by decide, fun H8 t8 hB8 f8 _ _ => ⟨_, _, rfl, rfl, by show 4 ≤ sizeLine; decide, fun lf hlf => ⟨lf, rfl, ⟨_, SqL.of upd_same⟩, ?_⟩⟩⟩, ?_⟩
      · have f68 : FrB b H6 H8 := (FrB.of s67).trans f8
        have nlb := hB8.nb hlf
        have hlf6 : H6 lf = none := f68.free hlf nlb
        have he8 := f8 _ _ neb he7
        have hm8 := f8 _ _ nmb hm7
        have nle : eq ≠ lf := ne_of_none he8 hlf
        have nlm : mo ≠ lf := ne_of_none hm8 hlf
        have ul := base_len u ok.hu
        have vl := base_len v ok.hv
        let zs : List V := [.int 0, .int (0 - c), .int c, .int (t8 - 200)]
        refine for_list (K := K) (a := lf) (xs := zs) (fun i σ H' => Pv i σ H' ∧ H' lf = some (.lst zs)) ⟨⟨⟨_, _, _, rfl⟩, hB8.write nlb (hB8.nc hlf), f68.new hlf6, [], [], (upd_ne nle).trans he8, (upd_ne nlm).trans hm8, Nat.le_refl _, Nat.le_refl _, fun t ht => (by cases ht), fun t ht => (by cases ht)⟩, upd_same⟩ (fun i σ H' _ z => SqL.of z.2) ?_ (fun σ H' z => z.1)
        rintro i x σ H9 hx ⟨⟨⟨q9, q14, q15, rfl⟩, hB9, f9, es, ms, hes, hms, les, lms, ses, sms⟩, hlf9⟩
        obtain ⟨z, _, rfl⟩ := ints_of (zs := [0, 0 - c, c, t8 - 200]) rfl (List.mem_of_getElem? hx)
        have i4 : i < 4 := (List.getElem?_eq_some_iff.mp hx).1
        have W1 := word_len (o := z) ok.hu
        have W2 := word_len (o := z + c) ok.hv
        refine ⟨_, rfl, _, rfl, u, z, rfl, by omega, _, rfl, _, rfl, _, rfl, _, _, rfl, rfl, v, _, rfl, by omega, _, _, rfl, ?_⟩
        have skip : ∀ {σ}, (∃ q9 q14 q15, σ = [some (.ref b), some (.str u), some (.str v), some (.int c), some (.ref an), some (.ref ar), some (.ref tr), some (.ref gl), some (.int (wCost c)), q9, some (.ref w1), some (.ref w2), some (.ref eq), some (.ref mo), q14, q15, none, none, none]) → Pv (i + 1) σ H9 ∧ H9 lf = some (.lst zs) := fun h => ⟨⟨h, hB9, f9, es, ms, hes, hms, by omega, by omega, ses, sms⟩, hlf9⟩
        refine ⟨_, rfl, _, ⟨sz1000 (by omega), rfl⟩, ?_⟩
        refine ite2 (fun e1 => ?_) (fun e1 => skip ⟨_, _, _, rfl⟩)
        refine ⟨_, rfl, _, ⟨sz1000 (by omega), rfl⟩, ?_⟩
        refine ite2 (fun e2 => ?_) (fun e2 => skip ⟨_, _, _, rfl⟩)
        obtain ⟨ok1, eq1⟩ := word_ok e1
        obtain ⟨ok2, eq2⟩ := word_ok e2
        have tl : ∀ {a b : Nat}, a ≤ 10 → b ≤ 10 → a + b ≤ 1000 := fun h1 h2 => by omega
        have L1 : (wordOf u z ++ (" = " : Str)).length ≤ 20 := by
          rw [strLen_append, show (" = " : Str).length = 3 from rfl]
          omega
        have L2 : (wordOf v (z + c) ++ (" = " : Str)).length ≤ 20 := by
          rw [strLen_append, show (" = " : Str).length = 3 from rfl]
          omega
        have L3 : (wordOf u z ++ (" >= " : Str)).length ≤ 20 := by
          rw [strLen_append, show (" >= " : Str).length = 4 from rfl]
          omega
        have S1 := says_eq ok ok1 ok2 rfl
        have S2 := says_eq2 ok ok1 ok2 rfl
        have S3 := says_more ok ok1 ok2 rfl
        rw [← eq1, ← eq2] at S1 S2 S3
        have k3 : (" = " : Str).length ≤ 10 := by show 3 ≤ 10; decide
        have k4 : (" >= " : Str).length ≤ 10 := by show 4 ≤ 10; decide
        refine ⟨_, rfl, .inl ⟨rfl, _, SqL.of hes⟩, _, rfl, wordOf u z, " = ", rfl, rfl, sz1000 (tl W1 k3), _, rfl, _, _, rfl, rfl, sz1000 (by omega), _, rfl, wordOf v (z + c), " = ", rfl, rfl, sz1000 (tl W2 k3), _, rfl, _, _, rfl, rfl, sz1000 (by omega), (by show 2 ≤ sizeLine; decide), fun e he => ?_⟩
        have nee : eq ≠ e := ne_of_none hes he
        have nme : mo ≠ e := ne_of_none hms he
        have nlfe : lf ≠ e := ne_of_none hlf9 he
        have neeb := hB9.nb he
        have he6 : H6 e = none := f9.free he neeb
        refine ⟨eq, e, _, _, rfl, rfl, (upd_ne nee).trans hes, upd_same, sz1000 (by rw [List.length_map]; show es.length + 2 ≤ 1000; omega), ?_⟩
        have hmo9 := (upd_ne (H := upd H9 e (.lst [.str (wordOf u z ++ " = " ++ wordOf v (z + c)), .str (wordOf v (z + c) ++ " = " ++ wordOf u z)])) (o := .lst (es.map V.str ++ [.str (wordOf u z ++ " = " ++ wordOf v (z + c)), .str (wordOf v (z + c) ++ " = " ++ wordOf u z)])) nem.symm).trans ((upd_ne nme).trans hms)
        refine ⟨_, rfl, .inl ⟨rfl, _, SqL.of hmo9⟩, _, rfl, wordOf u z, " >= ", rfl, rfl, sz1000 (tl W1 k4), _, rfl, _, _, rfl, rfl, sz1000 (by omega), mo, _, _, rfl, rfl, hmo9, small1000 (by rw [List.length_map]; omega), ?_⟩
        refine ⟨⟨⟨_, _, _, rfl⟩, ((hB9.write neeb (hB9.nc he)).write neb (hB6.nc heq)).write nmb (hB6.nc hmo6), ((f9.new he6).new heq).new hmo6, es ++ [wordOf u z ++ " = " ++ wordOf v (z + c), wordOf v (z + c) ++ " = " ++ wordOf u z], ms ++ [wordOf u z ++ " >= " ++ wordOf v (z + c)], ?_, ?_, ?_, ?_, ?_, ?_⟩, ?_⟩
        · rw [upd_ne nem, upd_same, List.map_append]
          rfl
        · rw [upd_same, List.map_append]
          rfl
        · rw [List.length_append]
          show es.length + 2 ≤ _
          omega
        · rw [List.length_append]
          show ms.length + 1 ≤ _
          omega
        · intro t ht
          rcases List.mem_append.mp ht with ht | ht
          · exact ses t ht
          · simp only [List.mem_cons, List.not_mem_nil, or_false] at ht
            rcases ht with rfl | rfl
            · exact S1
            · exact S2
        · intro t ht
          rcases List.mem_append.mp ht with ht | ht
          · exact sms t ht
          · rw [List.mem_singleton.mp ht]
            exact S3
        · exact (upd_ne nlm.symm).trans ((upd_ne nle.symm).trans ((upd_ne nlfe).trans hlf9))
      · rintro σ H9 ⟨⟨q9, q14, q15, rfl⟩, hB9, f9, es, ms, hes, hms, les, lms, ses, sms⟩
        have F9 : FrB b H2 H9 := F6.trans f9
        refine ⟨_, rfl, _, rfl, _, rfl, _, rfl, _, rfl, _, rfl, gl, rfl, ⟨_, SqL.of (G F9).1⟩, fun D3 hD3 => ?_⟩
        refine lc_gaps (gs := trys.map (gapF u v)) (fun g => decide (g = c)) (by rw [List.length_map]; omega) (SqL.of (G F9).1) hD3 (fun z H' Q' k' => ⟨rfl, _, rfl, _, rfl, rfl, by rw [int_dec]; exact k' _ (Same.refl _)⟩) ?_
        intro HD3 sD3 lD3
        have FD3 := (F9).trans (FrB.of sD3)
        refine ⟨eq, ar, tr, D3, es, rs, ys, trys, absI c, _, rfl, sD3 _ _ hes, SqL.of (G FD3).2.2.2, SqL.of (G FD3).2.1, (G FD3).2.2.1, SqL.of lD3, by rw [List.length_map, List.length_map], by omega, fun t ht => due_of (ses t ht) hat, fun HXD3 sXD3 => ?_⟩
        refine ⟨_, rfl, ?_⟩
        have F10 : FrB b H2 HXD3 := FD3.trans (FrB.of sXD3)
        have hB10 := (hB9.same sD3).same sXD3
        have hms' := sXD3 _ _ (sD3 _ _ hms)
        refine ⟨_, rfl, _, rfl, _, rfl, _, rfl, _, rfl, _, rfl, _, _, rfl, rfl, _, rfl, _, _, rfl, _, rfl, gl, rfl, ⟨_, SqL.of (G F10).1⟩, fun D4 hD4 => ?_⟩
        refine lc_gaps (gs := trys.map (gapF u v)) (fun g => decide (g ≥ c)) (by rw [List.length_map]; omega) (SqL.of (G F10).1) hD4 (fun z H' Q' k' => ⟨rfl, _, rfl, _, rfl, _, _, rfl, rfl, k' _ (Same.refl _)⟩) ?_
        intro HD4 sD4 lD4
        have FD4 := (F10).trans (FrB.of sD4)
        refine ⟨mo, ar, tr, D4, ms, rs, ys, trys, minI (absI c) (absI (c - 1)), _, rfl, sD4 _ _ hms', SqL.of (G FD4).2.2.2, SqL.of (G FD4).2.1, (G FD4).2.2.1, SqL.of lD4, by rw [List.length_map, List.length_map], by omega, fun t ht => due_of (sms t ht) hat, fun HXD4 sXD4 => ?_⟩
        exact k _ ((hB10.same sD4).same sXD4) ((f12.trans F10).trans (FrB.of (sD4.trans sXD4)))
end
end K02

set_option Elab.async false
set_option linter.all false
set_option maxRecDepth 100000
set_option maxHeartbeats 4000000
namespace K02
open PySem L2 OW TL
/-- a list made of another, place by place -/
theorem lc_pos {K : PySem.W.Frag} {a : Addr} {xs zs : List V} {g : TG} {te : TE} {vs : List Nat} {σ : L2.St} {H1 : Hp} {D : Addr} {Qd : Hp → Prop} (hlen : zs.length = xs.length) (hn : xs.length ≤ 1000) (ha : SqL K H1 a xs) (hD : H1 D = none)
    (hs : ∀ (i : Nat) (x z : V) (H : Hp) (Q' : VK), xs[i]? = some x → zs[i]? = some z → Same H1 H → (∀ H4, Same H H4 → Q' z H4) → g x (wipe σ vs) H fun σ2 H2 => wipe σ2 vs = wipe σ vs ∧ te σ2 H2 Q')
    (hd : ∀ H, Same H1 H → H D = some (.lst zs) → Qd H) :
    ∃ W : Nat → Nat → Hp → Prop, (∃ m, W 0 m (upd H1 D (.lst []))) ∧ ∀ i m H, W i m H →
      ((Itl K a).stop i H ∧ Qd H) ∨ ((Itl K a).go i H ∧ ∃ Nx : Hp → Prop, (∀ H', Nx H' → ∃ m', m' < m ∧ W (i + 1) m' H') ∧ ∀ x H', (Itl K a).yld i H x H' → g x (wipe σ vs) H' fun σ2 H2 => wipe σ2 vs = wipe σ vs ∧ tYes σ2 H2 fun b H3 =>
        if b = true then te σ2 H3 fun y H4 => ∃ acc, H4 D = some (.lst acc) ∧ acc.length < sizeLine ∧ Nx (upd H4 D (.lst (acc ++ [y]))) else Nx H3) := by
  refine lc_map (n := xs.length) (Y := YAt xs) (fun i => zs.getD i .non) (by omega) ((walk_list (K := K) (a := a) (xs := xs)).mono (fun H' s' => s'.seq ha) (fun _ _ _ _ _ _ y => y)) hD ?_ ?_
  · rintro i x H' H'' hi s' ⟨rfl, hx⟩ Q' k'
    refine hs i x _ _ Q' hx ?_ s' k'
    rw [List.getD_eq_getElem?_getD, List.getElem?_eq_getElem (l := zs) (by omega)]
    rfl
  · intro H s' hDD
    refine hd H s' ?_
    rw [hDD]
    refine congrArg (fun z => some (HO.lst z)) (List.ext_getElem? fun i => ?_)
    rw [List.getElem?_map]
    by_cases h : i < xs.length
    · rw [List.getElem?_range h, List.getElem?_eq_getElem (l := zs) (by omega)]
      show some (zs.getD i .non) = _
      rw [List.getD_eq_getElem?_getD, List.getElem?_eq_getElem (l := zs) (by omega)]
      rfl
    · rw [List.getElem?_eq_none (by rw [List.length_range]; omega), List.getElem?_eq_none (by omega)]
      rfl
def spKept : Sp := fun vs H Q _ => ∃ (b c0 ar : Addr) (r : Str) (rs : List Str), vs = [.ref b, .str r, .ref ar] ∧ Box b c0 H ∧ ar ≠ b ∧ H ar = some (.lst (rs.map V.str)) ∧ r ∈ rs ∧ (∀ r ∈ rs, r ∈ sRanges) ∧ ∀ H', Box b c0 H' → FrB b H H' → Q (.bl true) H'
section
variable {P : Program} {w : World} {K : PySem.W.Frag} {mg : Str → Option Value} {base : Heap}
theorem ok_law_size_kept (T : Txt K w mg) : FnOk P w K mg base CX0 11 T.a_law_size_kept T.d_law_size_kept ["bag", "name", "ranges"] spKept := by
  refine T.f_law_size_kept.ok sc_law_size_kept (fun vs H Q E h => ?_) (fun cdv A outer s H vs Q E hr h => ?_)
  · obtain ⟨b, c0, ar, r, rs, rfl, _⟩ := h
    rfl
  · obtain ⟨b, c0, ar, r, rs, rfl, hB, nrb, har, hr', sub, k⟩ := h
    refine ⟨_, (Evl.pss_cut (ps_set (i := 3) sc_law_size_kept.nd rfl (by first | exact Or.inl rfl | exact Or.inr rfl) (pe_op op_sub pe_int (pe_call (ok_law_of T) (hr.mono (by decide)) rfl T.g_law_of T.f_law_of.kp T.b_law_of .nil pass0 (pa_cons (pv 0) (pa_cons (pe_lst (pa_cons pe_int (pa_cons pe_int (pa_cons pe_int (pa_cons pe_int (pa_cons pe_int (pa_cons (pe_call (ok_law_draw T) (hr.mono (by decide)) rfl T.g_law_draw T.f_law_draw.kp T.b_law_draw .nil pass0 (pa_cons (pv 0) (pa_cons pe_int pa_nil))) pa_nil))))))) pa_nil)))))
    (pss_cons (ps_set (i := 4) sc_law_size_kept.nd rfl (by first | exact Or.inl rfl | exact Or.inr rfl) (pe_lst pa_nil))
    (Evl.pss_cut (ps_for PassesOwn.never rfl (pi_list (pe_lst (pa_cons pe_int (pa_cons (pe_op op_sub pe_int (pv 3)) (pa_cons (pe_op op_sub pe_int (pv 3)) (pa_cons (pe_op op_sub (pe_op op_sub pe_int (pv 3)) pe_int) (pa_cons (pe_call (ok_law_draw T) (hr.mono (by decide)) rfl T.g_law_draw T.f_law_draw.kp T.b_law_draw .nil pass0 (pa_cons (pv 0) (pa_cons pe_int pa_nil))) (pa_cons (pe_call (ok_law_great T) (hr.mono (by decide)) rfl T.g_law_great T.f_law_great.kp T.b_law_great .nil pass0 (pa_cons (pv 0) (pa_cons pe_int pa_nil))) pa_nil)))))))) (pg_name (i := 5) sc_law_size_kept.nd rfl (by first | exact Or.inl rfl | exact Or.inr rfl))
      (pss_one (ps_expr (pe_bm PySem.F.plainAttrs_list PySem.F.slot_list_append PySem.F.type_list_append mt_append (pv 4) (pa_cons (pe_tup (pa_cons pe_dnewK (pa_cons (pe_callB (call_max2 rfl) (by rfl) T.n_max (by decide +kernel) (pa_cons pe_int (pa_cons (pv 5) pa_nil))) pa_nil))) pa_nil)))))
    (pss_cons (ps_setLc (i := 6) rfl sc_law_size_kept.nd rfl rfl (sw_true rfl rfl rfl (by decide +kernel)) (own := [("values", 9), ("last", 5)]) (g := gTup K 2 (gCons (gName 9) (gCons (gName 5) gNil))) (pi_list (pv 4)) (blkOk_by (N := N_law_size_kept) (sc := defScope s_law_size_kept) (by decide +kernel)) (fun _ _ _ _ _ => (pg_tup (by rfl) (pgs_cons (pg_name (i := 9) sc_law_size_kept.nd rfl (Or.inl rfl)) (pgs_cons (pg_name (i := 5) sc_law_size_kept.nd rfl (Or.inl rfl)) pgs_nil)))) (fun _ _ _ _ _ => pts_nil) (fun _ _ _ _ _ => (pe_cmpR op_ge (pe_op op_add (pv 5) (pv 3)) pe_int (nomark _))))
    (pss_cons (ps_set (i := 7) sc_law_size_kept.nd rfl (by first | exact Or.inl rfl | exact Or.inr rfl) (pe_callB (call_min2 rfl) (by rfl) T.n_min (by decide +kernel) (pa_cons (pe_callB call_abs (by rfl) T.n_abs (by decide +kernel) (pa_cons (pv 3) pa_nil)) (pa_cons (pe_callB call_abs (by rfl) T.n_abs (by decide +kernel) (pa_cons (pe_op op_add (pv 3) pe_int) pa_nil)) pa_nil))))
    (pss_cons (ps_if (pt_not (pt_val (pe_call (ok_law_alike T) (hr.mono (by decide)) rfl T.g_law_alike T.f_law_alike.kp T.b_law_alike .nil pass0 (pa_cons (pe_call (ok_law_size_ways T) (hr.mono (by decide)) rfl T.g_law_size_ways T.f_law_size_ways.kp T.b_law_size_ways .nil pass0 (pa_cons (pv 1) (pa_cons (pv 3) pa_nil))) (pa_cons (pv 2) (pa_cons (pv 4) (pa_cons (pv 7) (pa_cons (pv 6) pa_nil))))))))
      (pss_one (ps_ret pe_bl))
      pss_nil)
    (pss_cons (ps_if (pt_not (pt_val (pe_call (ok_law_alike T) (hr.mono (by decide)) rfl T.g_law_alike T.f_law_alike.kp T.b_law_alike .nil pass0 (pa_cons (pe_call (ok_law_size_contrary T) (hr.mono (by decide)) rfl T.g_law_size_contrary T.f_law_size_contrary.kp T.b_law_size_contrary .nil pass0 (pa_cons (pv 1) (pa_cons (pv 3) pa_nil))) (pa_cons (pv 2) (pa_cons (pv 4) (pa_cons (pv 7) (pa_cons (pe_lc (own := [("held", 10)]) (g := gName 10) rfl sc_law_size_kept.nd (pi_list (pv 6)) (blkOk_by (N := N_law_size_kept) (sc := defScope s_law_size_kept) (by decide +kernel)) (fun _ _ _ _ _ => pg_name (i := 10) sc_law_size_kept.nd rfl (Or.inl rfl)) (fun _ _ _ _ _ => pts_nil) (fun _ _ _ _ _ => (pe_not (pv 10)))) pa_nil))))))))
      (pss_one (ps_ret pe_bl))
      pss_nil)
    (pss_cons (ps_setLc (i := 8) rfl sc_law_size_kept.nd rfl rfl (sw_true rfl rfl rfl (by decide +kernel)) (own := [("values", 9), ("last", 5)]) (g := gTup K 2 (gCons (gName 9) (gCons (gName 5) gNil))) (pi_list (pv 4)) (blkOk_by (N := N_law_size_kept) (sc := defScope s_law_size_kept) (by decide +kernel)) (fun _ _ _ _ _ => (pg_tup (by rfl) (pgs_cons (pg_name (i := 9) sc_law_size_kept.nd rfl (Or.inl rfl)) (pgs_cons (pg_name (i := 5) sc_law_size_kept.nd rfl (Or.inl rfl)) pgs_nil)))) (fun _ _ _ _ _ => pts_nil) (fun _ _ _ _ _ => (pe_cmpR op_eq (pe_op op_add (pv 5) pe_int) (pe_op op_sub pe_int (pv 3)) (nomark _))))
    (pss_one (ps_ret (pe_call (ok_law_alike T) (hr.mono (by decide)) rfl T.g_law_alike T.f_law_alike.kp T.b_law_alike .nil pass0 (pa_cons (pe_lst (pa_cons (pe_op op_add_str (pe_op op_add_str (pv 1) pe_str) (pe_callTy call_str_int (by rfl) T.n_str (by decide +kernel) (pa_cons (pe_op op_sub pe_int (pv 3)) pa_nil))) pa_nil)) (pa_cons (pv 2) (pa_cons (pv 4) (pa_cons (pe_callB call_abs (by rfl) T.n_abs (by decide +kernel) (pa_cons (pv 3) pa_nil)) (pa_cons (pv 8) pa_nil)))))))))))))))), ?_⟩
    -- c
    refine ⟨fun σ H2 => ∃ c, 0 ≤ 1 - c ∧ 1 - c ≤ 200 ∧ σ = [some (.ref b), some (.str r), some (.ref ar), some (.int c), none, none, none, none, none, none, none] ∧ Box b c0 H2 ∧ FrB b H H2, ?_, ?_⟩
    · refine ⟨_, rfl, _, rfl, b, c0, _, rfl, hB, by decide, by decide, fun H1 t1 hB1 f1 g0 g1 => ⟨by show 6 ≤ sizeLine; decide, fun p hp => ⟨b, c0, p, _, rfl, hB1.write (hB1.nb hp) (hB1.nc hp), hB1.nb hp, upd_same, Nat.succ_pos _, by show 6 ≤ 1000; decide, fun H2 kv hB2 f2 hkv => ?_⟩⟩⟩
      obtain ⟨kz, hkz, rfl⟩ := ints_of (zs := [0, 1, 2, 3, 200, t1]) rfl hkv
      have kr : 0 ≤ kz ∧ kz ≤ 200 := by
        simp only [List.mem_cons, List.not_mem_nil, or_false] at hkz
        rcases hkz with rfl | rfl | rfl | rfl | rfl | rfl <;> omega
      exact ⟨_, _, rfl, rfl, _, by omega, by omega, rfl, hB2, (f1.trans (FrB.of (OW.Same.upd_new (Same.refl H1) hp))).trans f2⟩
    rintro σ H2 ⟨c, c0', c1', rfl, hB2, f02⟩
    -- the tries
    refine ⟨by decide, fun tr htr0 => ?_⟩
    have ntb := hB2.nb htr0
    have hB3 := hB2.write ntb (hB2.nc htr0) (o := .lst [])
    let Pv : Nat → L2.St → Hp → Prop := fun i σ H' => (∃ q5, σ = [some (.ref b), some (.str r), some (.ref ar), some (.int c), some (.ref tr), q5, none, none, none, none, none]) ∧ Box b c0 H' ∧ FrB b H2 H' ∧ ∃ (ys : List V) (trys : List Try), H' tr = some (.lst ys) ∧ Paired (Tr K H') ys trys ∧ trys.length = i ∧ ∀ e ∈ trys, e.1 = []
    refine ⟨Pv 6, ⟨_, rfl, _, _, rfl, rfl, _, rfl, _, _, rfl, rfl, _, rfl, _, _, rfl, rfl, _, _, rfl, rfl, _, rfl, b, c0, _, rfl, hB3, by decide, by decide, fun H4 t4 hB4 f4 _ _ => ⟨_, rfl, b, c0, rfl, hB4, fun H5 z5 hB5 f5 => ⟨by show 6 ≤ sizeLine; decide, fun lf hlf => ⟨lf, rfl, ⟨_, SqL.of upd_same⟩, ?_⟩⟩⟩⟩, ?_⟩
    · have f25 : FrB b H2 H5 := (((FrB.refl b H2).new htr0).trans f4).trans f5
      have htr5 : H5 tr = some (.lst []) := f5 _ _ ntb (f4 _ _ ntb upd_same)
      have nlb := hB5.nb hlf
      have hlf2 : H2 lf = none := f25.free hlf nlb
      have ntl : tr ≠ lf := ne_of_none htr5 hlf
      let zs : List V := [.int 0, .int (0 - c), .int (1 - c), .int (0 - c - 1), .int t4, .int z5]
      refine for_list (K := K) (a := lf) (xs := zs) (fun i σ H' => Pv i σ H' ∧ H' lf = some (.lst zs)) ⟨⟨⟨_, rfl⟩, hB5.write nlb (hB5.nc hlf), f25.new hlf2, [], [], (upd_ne ntl).trans htr5, .nil, rfl, fun e he => (by cases he)⟩, upd_same⟩ (fun i σ H' _ z => SqL.of z.2) ?_ (fun σ H' z => z.1)
      rintro i x σ H6 hx ⟨⟨⟨q5, rfl⟩, hB6, f6, ys, trys, htr6, hp6, hl6, he6⟩, hlf6⟩
      obtain ⟨z, _, rfl⟩ := ints_of (zs := [0, 0 - c, 1 - c, 0 - c - 1, t4, z5]) rfl (List.mem_of_getElem? hx)
      have i6 : i < 6 := (List.getElem?_eq_some_iff.mp hx).1
      have lys : ys.length = trys.length := Paired.len hp6
      refine ⟨_, rfl, .inl ⟨rfl, _, SqL.of htr6⟩, fun d hd => ⟨_, rfl, _, _, rfl, by show 2 ≤ sizeLine; decide, fun t ht => ?_⟩⟩
      have s1 : Same H6 (upd H6 d (.dK [])) := OW.Same.upd_new (Same.refl H6) hd
      have s2 : Same (upd H6 d (.dK [])) (upd (upd H6 d (.dK [])) t (.tup [.ref d, .int (if z > 0 then z else 0)])) := OW.Same.upd_new (Same.refl _) ht
      have ht6 : H6 t = none := s1.free ht
      have htr8 := s2 _ _ (s1 _ _ htr6)
      have ndb := hB6.nb hd
      have ntb2 := hB6.nb ht6
      refine ⟨tr, ys, _, rfl, rfl, htr8, small1000 (by omega), ?_⟩
      refine ⟨⟨⟨_, rfl⟩, ((hB6.write ndb (hB6.nc hd)).write ntb2 (hB6.nc ht6)).write ntb (hB2.nc htr0), ((f6.new (f6.free hd ndb)).new (f6.free ht6 ntb2)).new htr0, ys ++ [.ref t], trys ++ [([], if z > 0 then z else 0)], upd_same, Paired.snoc (Paired.mapP hp6 fun v t' q => ((q.mono s1).mono s2).frB htr8 FrB.write) ?_, by rw [List.length_append, hl6]; rfl, fun e h => ?_⟩, ?_⟩
      · have q : Tr K (upd (upd H6 d (.dK [])) t (.tup [.ref d, .int (if z > 0 then z else 0)])) (.ref t) ([], if z > 0 then z else 0) := ⟨t, d, rfl, SqT.of upd_same, s2 _ _ upd_same⟩
        exact q.frB htr8 FrB.write
      · rcases List.mem_append.mp h with h | h
        · exact he6 e h
        · rw [List.mem_singleton.mp h]
      · exact (upd_ne ntl.symm).trans (s2 _ _ (s1 _ _ hlf6))
    · rintro σ H6 ⟨⟨q5, rfl⟩, hB6, f6, ys, trys, htr6, hp6, hl6, he6⟩
      have lys : ys.length = 6 := (Paired.len hp6).trans hl6
      have f06 := f02.trans f6
      have hat : ∀ e ∈ trys, At "$" e.1 e.2 (valAt "$" e) ∧ At "0" e.1 e.2 (valAt "0" e) := fun e he => by
        have a1 : At "$" e.1 e.2 e.2 := .inr (.inl ⟨end_ne, rfl, rfl⟩)
        have a2 : At "0" e.1 e.2 0 := .inl ⟨rfl, rfl⟩
        rw [at_val a1, at_val a2]
        exact ⟨a1, a2⟩
      have gap : ∀ e : Try, gapF "$" "0" e = e.2 := fun e => by
        have a1 : At "$" e.1 e.2 e.2 := .inr (.inl ⟨end_ne, rfl, rfl⟩)
        have a2 : At "0" e.1 e.2 0 := .inl ⟨rfl, rfl⟩
        unfold gapF
        rw [at_val a1, at_val a2]
        omega
      -- due
      refine ⟨_, rfl, tr, rfl, ⟨_, SqL.of htr6⟩, fun D1 hD1 => ?_⟩
      refine lc_pos (zs := ((trys.map (gapF "$" "0")).map fun g => decide (g + c ≥ 0)).map V.bl) (by rw [List.length_map, List.length_map, List.length_map]; omega) (by omega) (SqL.of htr6) hD1 ?_ ?_
      · rintro i x z H' Q' hx hz s' k'
        obtain ⟨e, he⟩ : ∃ e, trys[i]? = some e := ⟨_, List.getElem?_eq_getElem (by have := (List.getElem?_eq_some_iff.mp hx).1; omega)⟩
        obtain ⟨y, hy, a, d, rfl, ha, hd⟩ := paired_get hp6 he
        rw [hx] at hy
        cases hy
        rw [List.getElem?_map, List.getElem?_map, List.getElem?_map, he] at hz
        have hz := Option.some.inj hz
        rw [← hz, gap e] at k'
        exact ⟨a, _, rfl, same_t s' ha, rfl, _, _, rfl, _, _, rfl, rfl, rfl, _, rfl, _, rfl, _, _, rfl, rfl, _, _, rfl, rfl, k' _ (Same.refl _)⟩
      · intro H7 s7 hD1'
        have G : ∀ {H' : Hp}, Same H7 H' → H' tr = some (.lst ys) ∧ Paired (Tr K H') ys trys ∧ H' ar = some (.lst (rs.map V.str)) ∧ H' D1 = some (.lst (((trys.map (gapF "$" "0")).map fun g => decide (g + c ≥ 0)).map V.bl)) := fun f =>
          ⟨f _ _ (s7 _ _ htr6), Paired.mapP hp6 fun _ _ q => (q.mono s7).mono f, f _ _ (s7 _ _ (f06 _ _ nrb har)), f _ _ hD1'⟩
        have ac : absI c ≤ 1000 := by
          unfold absI
          split <;> omega
        -- the cost; all ways
        refine ⟨_, rfl, c, rfl, _, rfl, _, _, rfl, rfl, _, rfl, _, _, rfl, ?_⟩
        refine ⟨_, rfl, _, rfl, r, c, rs, rfl, hr', sub, ac, fun H8 m1 ts1 s8 hm1 l1 says1 => ⟨_, rfl, _, rfl, _, rfl, _, rfl, m1, ar, tr, D1, ts1, rs, ys, trys, _, _, rfl, hm1, SqL.of (G s8).2.2.1, SqL.of (G s8).1, (G s8).2.1, SqL.of (G s8).2.2.2, by rw [List.length_map, List.length_map], by omega, fun t ht => due_of (says1 t ht) hat, fun H9a s9a => ⟨_, rfl, ?_⟩⟩⟩
        have s9b := s8.trans s9a
        refine ⟨_, rfl, _, rfl, r, c, rs, rfl, hr', sub, ac, fun H9 m2 ts2 s9c hm2 l2 says2 => ⟨_, rfl, _, rfl, _, rfl, _, rfl, D1, rfl, ⟨_, SqL.of (G (s9b.trans s9c)).2.2.2⟩, fun D2 hD2 => ?_⟩⟩
        have s9 := s9b.trans s9c
        refine lc_pos (zs := ((trys.map (gapF "$" "0")).map fun g => !decide (g + c ≥ 0)).map V.bl) (by simp only [List.length_map]) (by simp only [List.length_map]; omega) (SqL.of (G s9).2.2.2) hD2 ?_ ?_
        · rintro i x z H' Q' hx hz s' k'
          rw [List.getElem?_map, List.getElem?_map] at hx hz
          cases hg : (trys.map (gapF "$" "0"))[i]? with
          | none =>
            rw [hg] at hx
            cases hx
          | some g =>
            rw [hg] at hx hz
            have hx := Option.some.inj hx
            have hz := Option.some.inj hz
            subst hx
            subst hz
            exact ⟨rfl, _, rfl, _, rfl, k' _ (Same.refl _)⟩
        · intro H10 s10 hD2'
          have s11 := s9.trans s10
          refine ⟨m2, ar, tr, D2, ts2, rs, ys, trys, _, _, rfl, s10 _ _ hm2, SqL.of (G s11).2.2.1, SqL.of (G s11).1, (G s11).2.1, SqL.of hD2', by rw [List.length_map, List.length_map], by omega, fun t ht => due_of (says2 t ht) hat, fun H12 s12 => ⟨_, rfl, ?_⟩⟩
          have s9 := s11.trans s12
          -- equal
          refine ⟨_, rfl, tr, rfl, ⟨_, SqL.of (G s9).1⟩, fun D3 hD3 => ?_⟩
          refine lc_pos (zs := ((trys.map (gapF "$" "0")).map fun g => decide (g + 1 = 1 - c)).map V.bl) (by rw [List.length_map, List.length_map, List.length_map]; omega) (by omega) (SqL.of (G s9).1) hD3 ?_ ?_
          · rintro i x z H' Q' hx hz s' k'
            obtain ⟨e, he⟩ : ∃ e, trys[i]? = some e := ⟨_, List.getElem?_eq_getElem (by have := (List.getElem?_eq_some_iff.mp hx).1; omega)⟩
            obtain ⟨y, hy, a, d, rfl, ha, hd⟩ := paired_get (G s9).2.1 he
            rw [hx] at hy
            cases hy
            rw [List.getElem?_map, List.getElem?_map, List.getElem?_map, he] at hz
            have hz := Option.some.inj hz
            rw [← hz, gap e] at k'
            exact ⟨a, _, rfl, same_t s' ha, rfl, _, _, rfl, _, _, rfl, rfl, rfl, _, rfl, _, _, rfl, rfl, _, rfl, _, _, rfl, rfl, rfl, by rw [int_dec]; exact k' _ (Same.refl _)⟩
          · intro H13 s13 hD3'
            have s14 := s9.trans s13
            have rl := (ranges_blank r (sub r hr')).2
            have nl := (num_ok c0' c1').2.2.2
            have k3 : (" = " : Str).length = 3 := rfl
            refine ⟨_, rfl, r, " = ", rfl, rfl, sz1000 (by rw [k3]; omega), _, rfl, _, _, rfl, rfl, _, rfl, num_log c0' c1', _, _, rfl, rfl, sz1000 (by rw [strLen_append, k3]; omega), by show 1 ≤ sizeLine; decide, fun e he => ?_⟩
            have s15 : Same H13 (upd H13 e (.lst [.str (r ++ " = " ++ toString (1 - c))])) := OW.Same.upd_new (Same.refl H13) he
            have s16 := s14.trans s15
            refine ⟨_, rfl, _, rfl, _, rfl, c, rfl, _, rfl, e, ar, tr, D3, [r ++ " = " ++ toString (1 - c)], rs, ys, trys, absI c, _, rfl, upd_same, SqL.of (G s16).2.2.1, SqL.of (G s16).1, (G s16).2.1, SqL.of (s15 _ _ hD3'), by rw [List.length_map, List.length_map], by omega, fun t ht => ?_, fun H17 s17 => ?_⟩
            · rw [List.mem_singleton.mp ht]
              exact due_of (size_eq hr' sub c0' c1') hat
            · have sl := (s7.trans s16).trans s17
              exact k _ (hB6.same sl) (f06.trans (FrB.of sl))
end
end K02

set_option Elab.async false
set_option linter.all false
set_option maxRecDepth 100000
set_option maxHeartbeats 4000000
namespace K02
open PySem L2 OW TL
theorem strs_sub {L : List Str} : ∀ {ys : List V}, (∀ y ∈ ys, y ∈ L.map V.str) → ∃ rs : List Str, ys = rs.map V.str ∧ ∀ r ∈ rs, r ∈ L
  | [], _ => ⟨[], rfl, fun r h => by cases h⟩
  | y :: ys, h => by
    obtain ⟨rs, e, q⟩ := strs_sub (ys := ys) fun z hz => h z (List.mem_cons_of_mem _ hz)
    obtain ⟨s, hs, e2⟩ := List.mem_map.mp (h y List.mem_cons_self)
    refine ⟨s :: rs, by rw [e, ← e2]; rfl, fun r hr => ?_⟩
    rcases List.mem_cons.mp hr with rfl | hr
    · exact hs
    · exact q r hr
theorem names_nodup : (sNames.map V.str).Nodup := by decide +kernel
theorem names_bases : ∀ n ∈ sNames, n ∈ bases ∧ ¬ n ∈ ends := by decide +kernel
theorem two_names {ys rest : List V} (hl : ys.length = 2) (hp : (ys ++ rest).Perm (sNames.map V.str)) : ∃ n0 n1, ys = [.str n0, .str n1] ∧ NamesOk n0 n1 := by
  match ys, hl with
  | [x, y], _ =>
    have m : ∀ z ∈ [x, y], z ∈ sNames.map V.str := fun z hz => hp.mem_iff.mp (List.mem_append_left _ hz)
    obtain ⟨n0, h0, e0⟩ := List.mem_map.mp (m x (by simp))
    obtain ⟨n1, h1, e1⟩ := List.mem_map.mp (m y (by simp))
    subst e0 e1
    refine ⟨n0, n1, rfl, h0, h1, fun e => ?_⟩
    subst e
    have nd := hp.symm.nodup names_nodup
    have nd2 : ¬ (V.str n0 ∈ V.str n0 :: rest) := (List.nodup_cons.mp nd).1
    exact nd2 List.mem_cons_self
theorem pair_ok {rs : List Str} {n0 n1 u v : Str} (N : NamesOk n0 n1) (sub : ∀ r ∈ rs, r ∈ sRanges) (hu : u = n0 ∨ u = n1) (hv : v = "0" ∨ v = "$" ∨ ((v = n0 ∨ v = n1) ∧ v ≠ u)) : PairOk rs u v ∧ Of4 n0 n1 u ∧ Of4 n0 n1 v := by
  have hu' : u ∈ sNames := by
    rcases hu with rfl | rfl
    · exact N.h0
    · exact N.h1
  have o4 : Of4 n0 n1 u := hu.elim (fun e => .inr (.inr (.inl e))) (fun e => .inr (.inr (.inr e)))
  refine ⟨⟨sub, (names_bases u hu').1, ?_, ?_, fun z => (names_bases u hu').2 z.1⟩, o4, ?_⟩
  · rcases hv with rfl | rfl | ⟨rfl | rfl, _⟩
    · decide +kernel
    · decide +kernel
    · exact (names_bases _ N.h0).1
    · exact (names_bases _ N.h1).1
  · rcases hv with rfl | rfl | ⟨_, h⟩
    · exact (names_end u hu').1
    · exact (names_end u hu').2
    · exact h.symm
  · rcases hv with rfl | rfl | ⟨rfl | rfl, _⟩
    · exact .inl rfl
    · exact .inr (.inl rfl)
    · exact .inr (.inr (.inl rfl))
    · exact .inr (.inr (.inr rfl))
def spLaw (K : PySem.W.Frag) : Sp := fun vs H Q _ => ∃ (a : Addr) (ns : List Int), vs = [.ref a] ∧ SqL K H a (ns.map V.int) ∧ ns.length ≤ 63 ∧ ∀ H', Q (.bl true) H'
section
variable {P : Program} {w : World} {K : PySem.W.Frag} {mg : Str → Option Value} {base : Heap}
theorem ok_law (T : Txt K w mg) {f : Addr} {fd : FuncData} (F : Fun K "law" "law" slaw f fd) : TopOk P w K mg base 12 f fd ["script"] (spLaw K) := by
  refine topOk_of F sclaw (fun vs H Q E h => ?_) (fun cdv A outer s H vs Q E hg0 hr h => ?_)
  · obtain ⟨a, ns, rfl, _⟩ := h
    rfl
  · obtain ⟨a, ns, rfl, ha, hl, k⟩ := h
    refine ⟨_, (pss_cons (ps_set (i := 1) sclaw.nd rfl (by first | exact Or.inl rfl | exact Or.inr rfl) (pe_call (ok_law_bag T) (hr.mono (by decide)) rfl T.g_law_bag T.f_law_bag.kp T.b_law_bag .nil pass0 (pa_cons (pv 0) pa_nil)))
    (pss_cons (ps_set (i := 2) sclaw.nd rfl (by first | exact Or.inl rfl | exact Or.inr rfl) (pe_call (ok_law_pick T) (hr.mono (by decide)) rfl T.g_law_pick T.f_law_pick.kp T.b_law_pick .nil pass0 (pa_cons (pv 1) (pa_cons (pe_lst (pa_cons pe_str (pa_cons pe_str (pa_cons pe_str (pa_cons pe_str (pa_cons pe_str (pa_cons pe_str pa_nil))))))) (pa_cons (pe_call (ok_law_of T) (hr.mono (by decide)) rfl T.g_law_of T.f_law_of.kp T.b_law_of .nil pass0 (pa_cons (pv 1) (pa_cons (pe_lst (pa_cons pe_int (pa_cons pe_int (pa_cons pe_int pa_nil)))) pa_nil))) pa_nil)))))
    (pss_cons (ps_set (i := 3) sclaw.nd rfl (by first | exact Or.inl rfl | exact Or.inr rfl) (pe_call (ok_law_pick T) (hr.mono (by decide)) rfl T.g_law_pick T.f_law_pick.kp T.b_law_pick .nil pass0 (pa_cons (pv 1) (pa_cons (pe_lst (pa_cons pe_str (pa_cons pe_str (pa_cons pe_str (pa_cons pe_str (pa_cons pe_str (pa_cons pe_str pa_nil))))))) (pa_cons pe_int pa_nil)))))
    (Evl.pss_cut (ps_for PassesOwn.never rfl (pi_range1 rfl T.n_range (pa_cons pe_int pa_nil)) (pg_name (i := 4) sclaw.nd rfl (by first | exact Or.inl rfl | exact Or.inr rfl))
      (pss_cons (ps_set (i := 5) sclaw.nd rfl (by first | exact Or.inl rfl | exact Or.inr rfl) (pe_call (ok_law_of T) (hr.mono (by decide)) rfl T.g_law_of T.f_law_of.kp T.b_law_of .nil pass0 (pa_cons (pv 1) (pa_cons (pe_lst (pa_cons pe_int (pa_cons pe_int (pa_cons (pe_un un_neg pe_int) (pa_cons pe_int (pa_cons (pe_un un_neg pe_int) (pa_cons pe_int (pa_cons (pe_un un_neg pe_int) (pa_cons pe_int (pa_cons (pe_un un_neg pe_int) (pa_cons (pe_op op_sub (pe_call (ok_law_draw T) (hr.mono (by decide)) rfl T.g_law_draw T.f_law_draw.kp T.b_law_draw .nil pass0 (pa_cons (pv 1) (pa_cons pe_int pa_nil))) pe_int) (pa_cons (pe_op op_sub (pe_call (ok_law_draw T) (hr.mono (by decide)) rfl T.g_law_draw T.f_law_draw.kp T.b_law_draw .nil pass0 (pa_cons (pv 1) (pa_cons pe_int pa_nil))) pe_int) pa_nil)))))))))))) pa_nil))))
      (pss_cons (ps_set (i := 6) sclaw.nd rfl (by first | exact Or.inl rfl | exact Or.inr rfl) (pe_call (ok_law_of T) (hr.mono (by decide)) rfl T.g_law_of T.f_law_of.kp T.b_law_of .nil pass0 (pa_cons (pv 1) (pa_cons (pv 3) pa_nil))))
      (pss_cons (ps_set (i := 7) sclaw.nd rfl (by first | exact Or.inl rfl | exact Or.inr rfl) (pe_call (ok_law_of T) (hr.mono (by decide)) rfl T.g_law_of T.f_law_of.kp T.b_law_of .nil pass0 (pa_cons (pv 1) (pa_cons (pe_op op_cat (pe_lst (pa_cons pe_str (pa_cons pe_str pa_nil))) (pe_op op_rep (pe_lc (own := [("one", 8)]) (g := gName 8) rfl sclaw.nd (pi_list (pv 3)) (blkOk_by (N := Nlaw) (sc := defScope slaw) (by decide +kernel)) (fun _ _ _ _ _ => pg_name (i := 8) sclaw.nd rfl (Or.inl rfl)) (fun _ _ _ _ _ => (pts_one (pt_cmpR op_ne (pv 8) (pv 6) (nomark _)))) (fun _ _ _ _ _ => (pv 8))) pe_int)) pa_nil))))
      (Evl.pss_cut (ps_if (pt_truth (pe_call (ok_law_draw T) (hr.mono (by decide)) rfl T.g_law_draw T.f_law_draw.kp T.b_law_draw .nil pass0 (pa_cons (pv 1) (pa_cons pe_int pa_nil))) (by intro _; rfl))
        (pss_one (ps_asg (pe_tup (pa_cons (pv 7) (pa_cons (pv 6) pa_nil))) (pg_tup (by rfl) (pgs_cons (pg_name (i := 6) sclaw.nd rfl (by first | exact Or.inl rfl | exact Or.inr rfl)) (pgs_cons (pg_name (i := 7) sclaw.nd rfl (by first | exact Or.inl rfl | exact Or.inr rfl)) pgs_nil)))))
        pss_nil)
      (pss_one (ps_if (pt_not (pt_val (pe_call (ok_law_pair T) (hr.mono (by decide)) rfl T.g_law_pair T.f_law_pair.kp T.b_law_pair .nil pass0 (pa_cons (pv 1) (pa_cons (pv 6) (pa_cons (pv 7) (pa_cons (pv 5) (pa_cons (pv 3) (pa_cons (pv 2) pa_nil)))))))))
        (pss_one (ps_ret pe_bl))
        pss_nil)))))))
    (pss_one (ps_ret (pe_call (ok_law_size_kept T) (hr.mono (by decide)) rfl T.g_law_size_kept T.f_law_size_kept.kp T.b_law_size_kept .nil pass0 (pa_cons (pv 1) (pa_cons (pe_call (ok_law_of T) (hr.mono (by decide)) rfl T.g_law_of T.f_law_of.kp T.b_law_of .nil pass0 (pa_cons (pv 1) (pa_cons (pv 2) pa_nil))) (pa_cons (pv 2) pa_nil)))))))))), ?_⟩
    refine ⟨_, rfl, a, ns, rfl, ha, hl, fun H1 b c0 s1 hb0 hB1 => ?_⟩
    -- the ranges
    refine ⟨_, rfl, by show 6 ≤ sizeLine; decide, fun p hp => ⟨_, rfl, by show 3 ≤ sizeLine; decide, fun q hq => ?_⟩⟩
    have hB2 := hB1.write (hB1.nb hp) (hB1.nc hp) (o := .lst (sRanges.map V.str))
    have npb := hB1.nb hp
    have npq : p ≠ q := ne_of_none (upd_same (H := H1) (a := p) (o := .lst (sRanges.map V.str))) hq
    refine ⟨b, c0, q, _, rfl, hB2.write (hB2.nb hq) (hB2.nc hq), hB2.nb hq, upd_same, Nat.succ_pos _, by show 3 ≤ 1000; decide, fun H3 nv hB3 f3 hnv => ?_⟩
    obtain ⟨n, n1', n3, rfl⟩ : ∃ n : Nat, 1 ≤ n ∧ n ≤ 3 ∧ nv = .int n := by
      simp only [List.mem_cons, List.not_mem_nil, or_false] at hnv
      rcases hnv with rfl | rfl | rfl
      · exact ⟨1, by decide, by decide, rfl⟩
      · exact ⟨2, by decide, by decide, rfl⟩
      · exact ⟨3, by decide, by decide, rfl⟩
    have hp3 : H3 p = some (.lst (sRanges.map V.str)) := f3 _ _ npb ((upd_ne npq).trans upd_same)
    refine ⟨b, c0, p, _, n, rfl, hB3, npb, hp3, by show n ≤ 6; omega, by show 6 ≤ 1000; decide, fun H4 ar ys hB4 f4 har0 har lys perm => ?_⟩
    obtain ⟨rest, perm⟩ := perm
    obtain ⟨rs, rfl, sub⟩ := strs_sub (L := sRanges) (ys := ys) fun y hy => perm.mem_iff.mp (List.mem_append_left _ hy)
    rw [List.length_map] at lys
    have nrb := hB3.nb har0
    -- the names
    refine ⟨_, rfl, by show 6 ≤ sizeLine; decide, fun p2 hp2 => ?_⟩
    have hB5 := hB4.write (hB4.nb hp2) (hB4.nc hp2) (o := .lst (sNames.map V.str))
    refine ⟨b, c0, p2, _, 2, rfl, hB5, hB4.nb hp2, upd_same, by show 2 ≤ 6; decide, by show 6 ≤ 1000; decide, fun H6 an ys2 hB6 f6 han0 han lys2 perm2 => ?_⟩
    obtain ⟨rest2, perm2⟩ := perm2
    obtain ⟨n0, n1, rfl, N⟩ := two_names lys2 perm2
    have nab := hB5.nb han0
    have har6 : H6 ar = some (.lst (rs.map V.str)) := f6 _ _ nrb ((upd_ne (ne_of_none har hp2)).trans har)
    -- the pairs
    let Pv : L2.St → Hp → Prop := fun σ H' => (∃ q4 q5 q6 q7, σ = [some (.ref a), some (.ref b), some (.ref ar), some (.ref an), q4, q5, q6, q7, none]) ∧ Box b c0 H' ∧ FrB b H6 H'
    refine ⟨Pv, ⟨(2 : Int), rfl, by decide, by decide, for_range (lo := 0) (n := 2) (fun _ => Pv) ⟨⟨_, _, _, _, rfl⟩, hB6, FrB.refl b H6⟩ ?_ (fun σ H' z => z)⟩, ?_⟩
    · rintro i σ H7 hi ⟨⟨q4, q5, q6, q7, rfl⟩, hB7, f7⟩
      -- c
      refine ⟨_, rfl, _, rfl, _, rfl, _, rfl, _, rfl, _, rfl, b, c0, _, rfl, hB7, by decide, by decide, fun H8 t8 hB8 f8 _ _ => ⟨_, _, rfl, rfl, _, rfl, b, c0, _, rfl, hB8, by decide, by decide, fun H9 t9 hB9 f9 _ _ => ⟨_, _, rfl, rfl, by show 11 ≤ sizeLine; decide, fun p3 hp3' => ?_⟩⟩⟩
      refine ⟨b, c0, p3, _, rfl, hB9.write (hB9.nb hp3') (hB9.nc hp3'), hB9.nb hp3', upd_same, Nat.succ_pos _, by show 11 ≤ 1000; decide, fun H10 cv hB10 f10 hcv => ?_⟩
      obtain ⟨c, _, rfl⟩ := ints_of (zs := [0, 1, -1, 2, -2, 199, -199, 200, -200, t8 - 200, t9 - 10]) rfl hcv
      have f710 : FrB b H6 H10 := (f7.trans (f8.trans f9)).trans ((FrB.of (OW.Same.upd_new (Same.refl H9) hp3')).trans f10)
      -- u
      refine ⟨_, rfl, _, rfl, b, c0, an, _, rfl, hB10, nab, f710 _ _ nab han, Nat.succ_pos _, by show 2 ≤ 1000; decide, fun H11 uv hB11 f11 huv => ?_⟩
      obtain ⟨u, hu, rfl⟩ : ∃ u, (u = n0 ∨ u = n1) ∧ uv = .str u := by
        simp only [List.mem_cons, List.not_mem_nil, or_false] at huv
        rcases huv with rfl | rfl
        · exact ⟨n0, .inl rfl, rfl⟩
        · exact ⟨n1, .inr rfl, rfl⟩
      have f611 := f710.trans f11
      -- v
      refine ⟨_, rfl, by show 2 ≤ sizeLine; decide, fun e1 he1 => ?_⟩
      have s12 : Same H11 (upd H11 e1 (.lst [.str "0", .str "$"])) := OW.Same.upd_new (Same.refl H11) he1
      have he1' : (upd H11 e1 (.lst [.str "0", .str "$"])) e1 = some (.lst [.str "0", .str "$"]) := upd_same
      have hB12 := hB11.same s12
      have han12 : (upd H11 e1 (.lst [.str "0", .str "$"])) an = some (.lst [.str n0, .str n1]) := s12 _ _ (f611 _ _ nab han)
      have f612 : FrB b H6 (upd H11 e1 (.lst [.str "0", .str "$"])) := f611.trans (FrB.of s12)
      generalize upd H11 e1 (.lst [.str "0", .str "$"]) = H12 at s12 he1' hB12 han12 f612
      refine ⟨_, rfl, an, rfl, ⟨_, SqL.of han12⟩, fun D hD => ?_⟩
      refine lc_list (K := K) (a := an) (xs := [.str n0, .str n1]) (fun i H' => Same H12 H' ∧ ∃ os : List Str, H' D = some (.lst (os.map V.str)) ∧ os.length ≤ i ∧ ∀ o ∈ os, (o = n0 ∨ o = n1) ∧ o ≠ u) ⟨OW.Same.upd_new (Same.refl _) hD, [], upd_same, Nat.le_refl _, fun o ho => by cases ho⟩ (fun i H' _ h => SqL.of (h.1 _ _ han12)) ?_ ?_
      · rintro j x H' hx ⟨s', os, h1, h2, h3⟩
        obtain ⟨o, ho, rfl⟩ : ∃ o, (o = n0 ∨ o = n1) ∧ x = .str o := by
          rcases two_at hx with ⟨_, rfl⟩ | ⟨_, rfl⟩
          · exact ⟨n0, .inl rfl, rfl⟩
          · exact ⟨n1, .inr rfl, rfl⟩
        have j2 : j < 2 := (List.getElem?_eq_some_iff.mp hx).1
        refine ⟨rfl, _, rfl, _, rfl, rfl, _, rfl, ?_⟩
        refine ite2 (fun e => ?_) (fun e => ⟨s', os, h1, by omega, h3⟩)
        have ne : o ≠ u := fun z => by
          rw [z, decide_eq_true rfl] at e
          cases e
        refine ⟨_, rfl, _, h1, small1000 (by rw [List.length_map]; omega), OW.Same.upd_new s' hD, os ++ [o], by rw [upd_same, List.map_append]; rfl, by rw [List.length_append]; exact Nat.succ_le_succ h2, fun z hz => ?_⟩
        rcases List.mem_append.mp hz with hz | hz
        · exact h3 z hz
        · rw [List.mem_singleton.mp hz]
          exact ⟨ho, ne⟩
      · rintro H13 ⟨s13, os, hD13, los, hos⟩
        have los : os.length ≤ 2 := los
        refine ⟨D, 2, _, rfl, rfl, hD13, by decide, by decide, sz1000 (by rw [List.length_map]; show os.length * 2 ≤ 1000; omega), fun e2 he2 => ?_⟩
        have s14 := OW.Same.upd_new (o := .lst (List.replicate (2 : Int).toNat (os.map V.str)).flatten) (Same.refl H13) he2
        have lfl : (List.replicate (2 : Int).toNat (os.map V.str)).flatten.length ≤ 4 := by
          show ((os.map V.str) ++ ((os.map V.str) ++ [])).length ≤ 4
          rw [List.length_append, List.length_append, List.length_map]
          show os.length + (os.length + 0) ≤ 4
          omega
        refine ⟨e1, e2, _, _, rfl, rfl, s14 _ _ (s13 _ _ he1'), upd_same, sz1000 (by show 2 + _ ≤ 1000; omega), fun e3 he3 => ?_⟩
        have s15 := OW.Same.upd_new (o := .lst ([.str "0", .str "$"] ++ (List.replicate (2 : Int).toNat (os.map V.str)).flatten)) (Same.refl (upd H13 e2 (.lst (List.replicate (2 : Int).toNat (os.map V.str)).flatten))) he3
        have sAll := (s13.trans s14).trans s15
        refine ⟨b, c0, e3, _, rfl, hB12.same sAll, (hB12.same (s13.trans s14)).nb he3, upd_same, Nat.succ_pos _, by rw [List.length_append]; show 2 + _ ≤ 1000; omega, fun H16 vv hB16 f16 hvv => ?_⟩
        obtain ⟨v, hv, rfl⟩ : ∃ v : Str, (v = "0" ∨ v = "$" ∨ ((v = n0 ∨ v = n1) ∧ v ≠ u)) ∧ vv = .str v := by
          rcases List.mem_append.mp hvv with hvv | hvv
          · simp only [List.mem_cons, List.not_mem_nil, or_false] at hvv
            rcases hvv with rfl | rfl
            · exact ⟨_, .inl rfl, rfl⟩
            · exact ⟨_, .inr (.inl rfl), rfl⟩
          · obtain ⟨l, hl', hm⟩ := List.mem_flatten.mp hvv
            rw [(List.mem_replicate.mp hl').2] at hm
            obtain ⟨o, ho, rfl⟩ := List.mem_map.mp hm
            exact ⟨o, .inr (.inr (hos o ho)), rfl⟩
        obtain ⟨ok, o4u, o4v⟩ := pair_ok (rs := rs) N sub hu hv
        have f616 : FrB b H6 H16 := (f612.trans (FrB.of sAll)).trans f16
        -- exchanged or not
        refine ⟨fun σ H' => ∃ u v q4, σ = [some (.ref a), some (.ref b), some (.ref ar), some (.ref an), q4, some (.int c), some (.str u), some (.str v), none] ∧ PairOk rs u v ∧ Of4 n0 n1 u ∧ Of4 n0 n1 v ∧ Box b c0 H' ∧ FrB b H6 H', ?_, ?_⟩
        · refine ⟨_, rfl, b, c0, _, rfl, hB16, by decide, by decide, fun H17 t17 hB17 f17 _ _ => ⟨_, rfl, ?_⟩⟩
          refine ite2 (fun _ => ?_) (fun _ => ⟨u, v, _, rfl, ok, o4u, o4v, hB17, f616.trans f17⟩)
          refine ⟨_, rfl, _, rfl, by show 2 ≤ sizeLine; decide, fun t ht => ⟨t, _, rfl, SqT.of upd_same, rfl, _, _, rfl, _, _, rfl, rfl, v, u, _, rfl, ok.symm, o4v, o4u, ?_, ?_⟩⟩
          · exact hB17.same (OW.Same.upd_new (Same.refl H17) ht)
          · exact (f616.trans f17).trans (FrB.of (OW.Same.upd_new (Same.refl H17) ht))
        · rintro σ H18 ⟨u', v', q4', rfl, ok', o4u', o4v', hB18, f18⟩
          refine ⟨_, rfl, _, rfl, _, rfl, _, rfl, _, rfl, _, rfl, b, c0, u', v', c, an, ar, n0, n1, rs, rfl, hB18, nab, nrb, f18 _ _ nab han, f18 _ _ nrb har6, N, ok', o4u', o4v', fun H19 hB19 f19 => ⟨_, rfl, ⟨_, _, _, _, rfl⟩, hB19, f18.trans f19⟩⟩
    · rintro σ H7 ⟨⟨q4, q5, q6, q7, rfl⟩, hB7, f7⟩
      have har7 := f7 _ _ nrb har6
      refine ⟨_, rfl, _, rfl, _, rfl, b, c0, ar, _, rfl, hB7, nrb, har7, by rw [List.length_map]; omega, by rw [List.length_map]; omega, fun H8 rv hB8 f8 hrv => ?_⟩
      obtain ⟨r, hr', rfl⟩ := List.mem_map.mp hrv
      exact ⟨_, rfl, b, c0, ar, r, rs, rfl, hB8, nrb, f8 _ _ nrb har7, hr', sub, fun H9 _ _ => k _⟩
end
end K02

set_option Elab.async false
set_option linter.all false
set_option maxRecDepth 100000
set_option maxHeartbeats 4000000
namespace K02
open PySem L2 OW
theorem all_mk {l : PySem.W.OpenLaw} {w : World} {K : PySem.W.Frag} {h : Heap} {mg : Str → Option Value} {fa : Addr} (X : K.In h) (G : h.Ns mainGlobals mg) (hfa : mg "law" = some (.ref fa))
    {a0 : Addr} {od0 an0 : Option Addr} {sl0 : Array (Option Value)} {oc0 kV0 dc0 pm0 cd0 ct0 : Value} {a1 : Addr} {od1 an1 : Option Addr} {sl1 : Array (Option Value)} {oc1 kV1 dc1 pm1 cd1 ct1 : Value} {a2 : Addr} {od2 an2 : Option Addr} {sl2 : Array (Option Value)} {oc2 kV2 dc2 pm2 cd2 ct2 : Value} {a3 : Addr} {od3 an3 : Option Addr} {sl3 : Array (Option Value)} {oc3 kV3 dc3 pm3 cd3 ct3 : Value} {a4 : Addr} {od4 an4 : Option Addr} {sl4 : Array (Option Value)} {oc4 kV4 dc4 pm4 cd4 ct4 : Value} {a5 : Addr} {od5 an5 : Option Addr} {sl5 : Array (Option Value)} {oc5 kV5 dc5 pm5 cd5 ct5 : Value} {a6 : Addr} {od6 an6 : Option Addr} {sl6 : Array (Option Value)} {oc6 kV6 dc6 pm6 cd6 ct6 : Value} {a7 : Addr} {od7 an7 : Option Addr} {sl7 : Array (Option Value)} {oc7 kV7 dc7 pm7 cd7 ct7 : Value} {a8 : Addr} {od8 an8 : Option Addr} {sl8 : Array (Option Value)} {oc8 kV8 dc8 pm8 cd8 ct8 : Value} {a9 : Addr} {od9 an9 : Option Addr} {sl9 : Array (Option Value)} {oc9 kV9 dc9 pm9 cd9 ct9 : Value} {a10 : Addr} {od10 an10 : Option Addr} {sl10 : Array (Option Value)} {oc10 kV10 dc10 pm10 cd10 ct10 : Value} {a11 : Addr} {od11 an11 : Option Addr} {sl11 : Array (Option Value)} {oc11 kV11 dc11 pm11 cd11 ct11 : Value} {a12 : Addr} {od12 an12 : Option Addr} {sl12 : Array (Option Value)} {oc12 kV12 dc12 pm12 cd12 ct12 : Value} {a13 : Addr} {od13 an13 : Option Addr} {sl13 : Array (Option Value)} {oc13 kV13 dc13 pm13 cd13 ct13 : Value} {a14 : Addr} {od14 an14 : Option Addr} {sl14 : Array (Option Value)} {oc14 kV14 dc14 pm14 cd14 ct14 : Value} {a15 : Addr} {od15 an15 : Option Addr} {sl15 : Array (Option Value)} {oc15 kV15 dc15 pm15 cd15 ct15 : Value} {a16 : Addr} {od16 an16 : Option Addr} {sl16 : Array (Option Value)} {oc16 kV16 dc16 pm16 cd16 ct16 : Value} {a17 : Addr} {od17 an17 : Option Addr} {sl17 : Array (Option Value)} {oc17 kV17 dc17 pm17 cd17 ct17 : Value} {a18 : Addr} {od18 an18 : Option Addr} {sl18 : Array (Option Value)} {oc18 kV18 dc18 pm18 cd18 ct18 : Value} {a19 : Addr} {od19 an19 : Option Addr} {sl19 : Array (Option Value)} {oc19 kV19 dc19 pm19 cd19 ct19 : Value} {a20 : Addr} {od20 an20 : Option Addr} {sl20 : Array (Option Value)} {oc20 kV20 dc20 pm20 cd20 ct20 : Value} {a21 : Addr} {od21 an21 : Option Addr} {sl21 : Array (Option Value)} {oc21 kV21 dc21 pm21 cd21 ct21 : Value} {a22 : Addr} {od22 an22 : Option Addr} {sl22 : Array (Option Value)} {oc22 kV22 dc22 pm22 cd22 ct22 : Value} {a23 : Addr} {od23 an23 : Option Addr} {sl23 : Array (Option Value)} {oc23 kV23 dc23 pm23 cd23 ct23 : Value} {a24 : Addr} {od24 an24 : Option Addr} {sl24 : Array (Option Value)} {oc24 kV24 dc24 pm24 cd24 ct24 : Value} {a25 : Addr} {od25 an25 : Option Addr} {sl25 : Array (Option Value)} {oc25 kV25 dc25 pm25 cd25 ct25 : Value} {a26 : Addr} {od26 an26 : Option Addr} {sl26 : Array (Option Value)} {oc26 kV26 dc26 pm26 cd26 ct26 : Value} {a27 : Addr} {od27 an27 : Option Addr} {sl27 : Array (Option Value)} {oc27 kV27 dc27 pm27 cd27 ct27 : Value} {a28 : Addr} {od28 an28 : Option Addr} {sl28 : Array (Option Value)} {oc28 kV28 dc28 pm28 cd28 ct28 : Value} {a29 : Addr} {od29 an29 : Option Addr} {sl29 : Array (Option Value)} {oc29 kV29 dc29 pm29 cd29 ct29 : Value} {a30 : Addr} {od30 an30 : Option Addr} {sl30 : Array (Option Value)} {oc30 kV30 dc30 pm30 cd30 ct30 : Value} {a31 : Addr} {od31 an31 : Option Addr} {sl31 : Array (Option Value)} {oc31 kV31 dc31 pm31 cd31 ct31 : Value} {a32 : Addr} {od32 an32 : Option Addr} {sl32 : Array (Option Value)} {oc32 kV32 dc32 pm32 cd32 ct32 : Value}
    (n0 : PySem.W.nsIn K mainGlobals "check_limit" = some (some (.ref a0))) (l0 : K.lookup a0 = some ⟨oc0, od0, .func (PySem.W.fnOf "check_limit" "check_limit" (defArgs scheck_limit) (defBody scheck_limit) (defScope scheck_limit) .none kV0 dc0 pm0 an0 cd0 ct0), sl0⟩) (c0 : PySem.W.codeIn K cd0 "check_limit" = true) (k0 : PySem.W.keepIn K (.ref a0) = true)
    (n1 : PySem.W.nsIn K mainGlobals "is_count" = some (some (.ref a1))) (l1 : K.lookup a1 = some ⟨oc1, od1, .func (PySem.W.fnOf "is_count" "is_count" (defArgs sis_count) (defBody sis_count) (defScope sis_count) .none kV1 dc1 pm1 an1 cd1 ct1), sl1⟩) (c1 : PySem.W.codeIn K cd1 "is_count" = true) (k1 : PySem.W.keepIn K (.ref a1) = true)
    (n2 : PySem.W.nsIn K mainGlobals "is_positive" = some (some (.ref a2))) (l2 : K.lookup a2 = some ⟨oc2, od2, .func (PySem.W.fnOf "is_positive" "is_positive" (defArgs sis_positive) (defBody sis_positive) (defScope sis_positive) .none kV2 dc2 pm2 an2 cd2 ct2), sl2⟩) (c2 : PySem.W.codeIn K cd2 "is_positive" = true) (k2 : PySem.W.keepIn K (.ref a2) = true)
    (n3 : PySem.W.nsIn K mainGlobals "has_name_signs" = some (some (.ref a3))) (l3 : K.lookup a3 = some ⟨oc3, od3, .func (PySem.W.fnOf "has_name_signs" "has_name_signs" (defArgs shas_name_signs) (defBody shas_name_signs) (defScope shas_name_signs) .none kV3 dc3 pm3 an3 cd3 ct3), sl3⟩) (c3 : PySem.W.codeIn K cd3 "has_name_signs" = true) (k3 : PySem.W.keepIn K (.ref a3) = true)
    (n4 : PySem.W.nsIn K mainGlobals "is_variable" = some (some (.ref a4))) (l4 : K.lookup a4 = some ⟨oc4, od4, .func (PySem.W.fnOf "is_variable" "is_variable" (defArgs sis_variable) (defBody sis_variable) (defScope sis_variable) .none kV4 dc4 pm4 an4 cd4 ct4), sl4⟩) (c4 : PySem.W.codeIn K cd4 "is_variable" = true) (k4 : PySem.W.keepIn K (.ref a4) = true)
    (n5 : PySem.W.nsIn K mainGlobals "moved_place" = some (some (.ref a5))) (l5 : K.lookup a5 = some ⟨oc5, od5, .func (PySem.W.fnOf "moved_place" "moved_place" (defArgs smoved_place) (defBody smoved_place) (defScope smoved_place) .none kV5 dc5 pm5 an5 cd5 ct5), sl5⟩) (c5 : PySem.W.codeIn K cd5 "moved_place" = true) (k5 : PySem.W.keepIn K (.ref a5) = true)
    (n6 : PySem.W.nsIn K mainGlobals "split_place" = some (some (.ref a6))) (l6 : K.lookup a6 = some ⟨oc6, od6, .func (PySem.W.fnOf "split_place" "split_place" (defArgs ssplit_place) (defBody ssplit_place) (defScope ssplit_place) .none kV6 dc6 pm6 an6 cd6 ct6), sl6⟩) (c6 : PySem.W.codeIn K cd6 "split_place" = true) (k6 : PySem.W.keepIn K (.ref a6) = true)
    (n7 : PySem.W.nsIn K mainGlobals "place_sides" = some (some (.ref a7))) (l7 : K.lookup a7 = some ⟨oc7, od7, .func (PySem.W.fnOf "place_sides" "place_sides" (defArgs splace_sides) (defBody splace_sides) (defScope splace_sides) .none kV7 dc7 pm7 an7 cd7 ct7), sl7⟩) (c7 : PySem.W.codeIn K cd7 "place_sides" = true) (k7 : PySem.W.keepIn K (.ref a7) = true)
    (n8 : PySem.W.nsIn K mainGlobals "condition_sides" = some (some (.ref a8))) (l8 : K.lookup a8 = some ⟨oc8, od8, .func (PySem.W.fnOf "condition_sides" "condition_sides" (defArgs scondition_sides) (defBody scondition_sides) (defScope scondition_sides) .none kV8 dc8 pm8 an8 cd8 ct8), sl8⟩) (c8 : PySem.W.codeIn K cd8 "condition_sides" = true) (k8 : PySem.W.keepIn K (.ref a8) = true)
    (n9 : PySem.W.nsIn K mainGlobals "bound_of" = some (some (.ref a9))) (l9 : K.lookup a9 = some ⟨oc9, od9, .func (PySem.W.fnOf "bound_of" "bound_of" (defArgs sbound_of) (defBody sbound_of) (defScope sbound_of) .none kV9 dc9 pm9 an9 cd9 ct9), sl9⟩) (c9 : PySem.W.codeIn K cd9 "bound_of" = true) (k9 : PySem.W.keepIn K (.ref a9) = true)
    (n10 : PySem.W.nsIn K mainGlobals "bound_cost" = some (some (.ref a10))) (l10 : K.lookup a10 = some ⟨oc10, od10, .func (PySem.W.fnOf "bound_cost" "bound_cost" (defArgs sbound_cost) (defBody sbound_cost) (defScope sbound_cost) .none kV10 dc10 pm10 an10 cd10 ct10), sl10⟩) (c10 : PySem.W.codeIn K cd10 "bound_cost" = true) (k10 : PySem.W.keepIn K (.ref a10) = true)
    (n11 : PySem.W.nsIn K mainGlobals "compares" = some (some (.ref a11))) (l11 : K.lookup a11 = some ⟨oc11, od11, .func (PySem.W.fnOf "compares" "compares" (defArgs scompares) (defBody scompares) (defScope scompares) .none kV11 dc11 pm11 an11 cd11 ct11), sl11⟩) (c11 : PySem.W.codeIn K cd11 "compares" = true) (k11 : PySem.W.keepIn K (.ref a11) = true)
    (n12 : PySem.W.nsIn K mainGlobals "value_of" = some (some (.ref a12))) (l12 : K.lookup a12 = some ⟨oc12, od12, .func (PySem.W.fnOf "value_of" "value_of" (defArgs svalue_of) (defBody svalue_of) (defScope svalue_of) .none kV12 dc12 pm12 an12 cd12 ct12), sl12⟩) (c12 : PySem.W.codeIn K cd12 "value_of" = true) (k12 : PySem.W.keepIn K (.ref a12) = true)
    (n13 : PySem.W.nsIn K mainGlobals "made_sides" = some (some (.ref a13))) (l13 : K.lookup a13 = some ⟨oc13, od13, .func (PySem.W.fnOf "made_sides" "made_sides" (defArgs smade_sides) (defBody smade_sides) (defScope smade_sides) .none kV13 dc13 pm13 an13 cd13 ct13), sl13⟩) (c13 : PySem.W.codeIn K cd13 "made_sides" = true) (k13 : PySem.W.keepIn K (.ref a13) = true)
    (n14 : PySem.W.nsIn K mainGlobals "read_sides" = some (some (.ref a14))) (l14 : K.lookup a14 = some ⟨oc14, od14, .func (PySem.W.fnOf "read_sides" "read_sides" (defArgs sread_sides) (defBody sread_sides) (defScope sread_sides) .none kV14 dc14 pm14 an14 cd14 ct14), sl14⟩) (c14 : PySem.W.codeIn K cd14 "read_sides" = true) (k14 : PySem.W.keepIn K (.ref a14) = true)
    (n15 : PySem.W.nsIn K mainGlobals "condition_cost" = some (some (.ref a15))) (l15 : K.lookup a15 = some ⟨oc15, od15, .func (PySem.W.fnOf "condition_cost" "condition_cost" (defArgs scondition_cost) (defBody scondition_cost) (defScope scondition_cost) .none kV15 dc15 pm15 an15 cd15 ct15), sl15⟩) (c15 : PySem.W.codeIn K cd15 "condition_cost" = true) (k15 : PySem.W.keepIn K (.ref a15) = true)
    (n16 : PySem.W.nsIn K mainGlobals "condition_holds" = some (some (.ref a16))) (l16 : K.lookup a16 = some ⟨oc16, od16, .func (PySem.W.fnOf "condition_holds" "condition_holds" (defArgs scondition_holds) (defBody scondition_holds) (defScope scondition_holds) .none kV16 dc16 pm16 an16 cd16 ct16), sl16⟩) (c16 : PySem.W.codeIn K cd16 "condition_holds" = true) (k16 : PySem.W.keepIn K (.ref a16) = true)
    (n17 : PySem.W.nsIn K mainGlobals "_law_bag" = some (some (.ref a17))) (l17 : K.lookup a17 = some ⟨oc17, od17, .func (PySem.W.fnOf "_law_bag" "_law_bag" (defArgs s_law_bag) (defBody s_law_bag) (defScope s_law_bag) .none kV17 dc17 pm17 an17 cd17 ct17), sl17⟩) (c17 : PySem.W.codeIn K cd17 "_law_bag" = true) (k17 : PySem.W.keepIn K (.ref a17) = true)
    (n18 : PySem.W.nsIn K mainGlobals "_law_draw" = some (some (.ref a18))) (l18 : K.lookup a18 = some ⟨oc18, od18, .func (PySem.W.fnOf "_law_draw" "_law_draw" (defArgs s_law_draw) (defBody s_law_draw) (defScope s_law_draw) .none kV18 dc18 pm18 an18 cd18 ct18), sl18⟩) (c18 : PySem.W.codeIn K cd18 "_law_draw" = true) (k18 : PySem.W.keepIn K (.ref a18) = true)
    (n19 : PySem.W.nsIn K mainGlobals "_law_of" = some (some (.ref a19))) (l19 : K.lookup a19 = some ⟨oc19, od19, .func (PySem.W.fnOf "_law_of" "_law_of" (defArgs s_law_of) (defBody s_law_of) (defScope s_law_of) .none kV19 dc19 pm19 an19 cd19 ct19), sl19⟩) (c19 : PySem.W.codeIn K cd19 "_law_of" = true) (k19 : PySem.W.keepIn K (.ref a19) = true)
    (n20 : PySem.W.nsIn K mainGlobals "_law_pick" = some (some (.ref a20))) (l20 : K.lookup a20 = some ⟨oc20, od20, .func (PySem.W.fnOf "_law_pick" "_law_pick" (defArgs s_law_pick) (defBody s_law_pick) (defScope s_law_pick) .none kV20 dc20 pm20 an20 cd20 ct20), sl20⟩) (c20 : PySem.W.codeIn K cd20 "_law_pick" = true) (k20 : PySem.W.keepIn K (.ref a20) = true)
    (n21 : PySem.W.nsIn K mainGlobals "_law_great" = some (some (.ref a21))) (l21 : K.lookup a21 = some ⟨oc21, od21, .func (PySem.W.fnOf "_law_great" "_law_great" (defArgs s_law_great) (defBody s_law_great) (defScope s_law_great) .none kV21 dc21 pm21 an21 cd21 ct21), sl21⟩) (c21 : PySem.W.codeIn K cd21 "_law_great" = true) (k21 : PySem.W.keepIn K (.ref a21) = true)
    (n22 : PySem.W.nsIn K mainGlobals "_law_like" = some (some (.ref a22))) (l22 : K.lookup a22 = some ⟨oc22, od22, .func (PySem.W.fnOf "_law_like" "_law_like" (defArgs s_law_like) (defBody s_law_like) (defScope s_law_like) .none kV22 dc22 pm22 an22 cd22 ct22), sl22⟩) (c22 : PySem.W.codeIn K cd22 "_law_like" = true) (k22 : PySem.W.keepIn K (.ref a22) = true)
    (n23 : PySem.W.nsIn K mainGlobals "_law_word" = some (some (.ref a23))) (l23 : K.lookup a23 = some ⟨oc23, od23, .func (PySem.W.fnOf "_law_word" "_law_word" (defArgs s_law_word) (defBody s_law_word) (defScope s_law_word) .none kV23 dc23 pm23 an23 cd23 ct23), sl23⟩) (c23 : PySem.W.codeIn K cd23 "_law_word" = true) (k23 : PySem.W.keepIn K (.ref a23) = true)
    (n24 : PySem.W.nsIn K mainGlobals "_law_ways" = some (some (.ref a24))) (l24 : K.lookup a24 = some ⟨oc24, od24, .func (PySem.W.fnOf "_law_ways" "_law_ways" (defArgs s_law_ways) (defBody s_law_ways) (defScope s_law_ways) .none kV24 dc24 pm24 an24 cd24 ct24), sl24⟩) (c24 : PySem.W.codeIn K cd24 "_law_ways" = true) (k24 : PySem.W.keepIn K (.ref a24) = true)
    (n25 : PySem.W.nsIn K mainGlobals "_law_size_ways" = some (some (.ref a25))) (l25 : K.lookup a25 = some ⟨oc25, od25, .func (PySem.W.fnOf "_law_size_ways" "_law_size_ways" (defArgs s_law_size_ways) (defBody s_law_size_ways) (defScope s_law_size_ways) .none kV25 dc25 pm25 an25 cd25 ct25), sl25⟩) (c25 : PySem.W.codeIn K cd25 "_law_size_ways" = true) (k25 : PySem.W.keepIn K (.ref a25) = true)
    (n26 : PySem.W.nsIn K mainGlobals "_law_size_contrary" = some (some (.ref a26))) (l26 : K.lookup a26 = some ⟨oc26, od26, .func (PySem.W.fnOf "_law_size_contrary" "_law_size_contrary" (defArgs s_law_size_contrary) (defBody s_law_size_contrary) (defScope s_law_size_contrary) .none kV26 dc26 pm26 an26 cd26 ct26), sl26⟩) (c26 : PySem.W.codeIn K cd26 "_law_size_contrary" = true) (k26 : PySem.W.keepIn K (.ref a26) = true)
    (n27 : PySem.W.nsIn K mainGlobals "_law_alike" = some (some (.ref a27))) (l27 : K.lookup a27 = some ⟨oc27, od27, .func (PySem.W.fnOf "_law_alike" "_law_alike" (defArgs s_law_alike) (defBody s_law_alike) (defScope s_law_alike) .none kV27 dc27 pm27 an27 cd27 ct27), sl27⟩) (c27 : PySem.W.codeIn K cd27 "_law_alike" = true) (k27 : PySem.W.keepIn K (.ref a27) = true)
    (n28 : PySem.W.nsIn K mainGlobals "_law_tries" = some (some (.ref a28))) (l28 : K.lookup a28 = some ⟨oc28, od28, .func (PySem.W.fnOf "_law_tries" "_law_tries" (defArgs s_law_tries) (defBody s_law_tries) (defScope s_law_tries) .none kV28 dc28 pm28 an28 cd28 ct28), sl28⟩) (c28 : PySem.W.codeIn K cd28 "_law_tries" = true) (k28 : PySem.W.keepIn K (.ref a28) = true)
    (n29 : PySem.W.nsIn K mainGlobals "_law_gap" = some (some (.ref a29))) (l29 : K.lookup a29 = some ⟨oc29, od29, .func (PySem.W.fnOf "_law_gap" "_law_gap" (defArgs s_law_gap) (defBody s_law_gap) (defScope s_law_gap) .none kV29 dc29 pm29 an29 cd29 ct29), sl29⟩) (c29 : PySem.W.codeIn K cd29 "_law_gap" = true) (k29 : PySem.W.keepIn K (.ref a29) = true)
    (n30 : PySem.W.nsIn K mainGlobals "_law_pair" = some (some (.ref a30))) (l30 : K.lookup a30 = some ⟨oc30, od30, .func (PySem.W.fnOf "_law_pair" "_law_pair" (defArgs s_law_pair) (defBody s_law_pair) (defScope s_law_pair) .none kV30 dc30 pm30 an30 cd30 ct30), sl30⟩) (c30 : PySem.W.codeIn K cd30 "_law_pair" = true) (k30 : PySem.W.keepIn K (.ref a30) = true)
    (n31 : PySem.W.nsIn K mainGlobals "_law_size_kept" = some (some (.ref a31))) (l31 : K.lookup a31 = some ⟨oc31, od31, .func (PySem.W.fnOf "_law_size_kept" "_law_size_kept" (defArgs s_law_size_kept) (defBody s_law_size_kept) (defScope s_law_size_kept) .none kV31 dc31 pm31 an31 cd31 ct31), sl31⟩) (c31 : PySem.W.codeIn K cd31 "_law_size_kept" = true) (k31 : PySem.W.keepIn K (.ref a31) = true)
    (n32 : PySem.W.nsIn K mainGlobals "law" = some (some (.ref a32))) (l32 : K.lookup a32 = some ⟨oc32, od32, .func (PySem.W.fnOf "law" "law" (defArgs slaw) (defBody slaw) (defScope slaw) .none kV32 dc32 pm32 an32 cd32 ct32), sl32⟩) (c32 : PySem.W.codeIn K cd32 "law" = true) (k32 : PySem.W.keepIn K (.ref a32) = true)
    (z0 : PySem.W.nsIn K mainGlobals "len" = some none) (z1 : PySem.W.nsIn K mainGlobals "int" = some none) (z2 : PySem.W.nsIn K mainGlobals "str" = some none) (z3 : PySem.W.nsIn K mainGlobals "list" = some none) (z4 : PySem.W.nsIn K mainGlobals "dict" = some none) (z5 : PySem.W.nsIn K mainGlobals "bool" = some none) (z6 : PySem.W.nsIn K mainGlobals "range" = some none) (z7 : PySem.W.nsIn K mainGlobals "abs" = some none) (z8 : PySem.W.nsIn K mainGlobals "min" = some none) (z9 : PySem.W.nsIn K mainGlobals "max" = some none) (z10 : PySem.W.nsIn K mainGlobals "isinstance" = some none)
    {ti0 : Tok} (i0 : PySem.W.nsIn K mainGlobals "MOST_OF_NAME" = some (some (.int 8 ti0)))
    {ta0 : Addr} {td0 : Option Addr} {te0 : Array Value} {tn0 : Nat} {ts0 : Array (Option Value)} (t0 : PySem.W.nsIn K mainGlobals "NOT_NAMES" = some (some (.ref ta0))) (u0 : K.lookup ta0 = some ⟨.type "tuple", td0, .seq te0 tn0, ts0⟩) (v0 : Vals (notNames.map V.str) te0.toList)
    {ta1 : Addr} {td1 : Option Addr} {te1 : Array Value} {tn1 : Nat} {ts1 : Array (Option Value)} (t1 : PySem.W.nsIn K mainGlobals "SIGNS" = some (some (.ref ta1))) (u1 : K.lookup ta1 = some ⟨.type "tuple", td1, .seq te1 tn1, ts1⟩) (v1 : Vals (signs.map V.str) te1.toList)
    {ta2 : Addr} {td2 : Option Addr} {te2 : Array Value} {tn2 : Nat} {ts2 : Array (Option Value)} (t2 : PySem.W.nsIn K mainGlobals "ENDS" = some (some (.ref ta2))) (u2 : K.lookup ta2 = some ⟨.type "tuple", td2, .seq te2 tn2, ts2⟩) (v2 : Vals (ends.map V.str) te2.toList)
    {da0 : Addr} {de0 : Array DictEntry} {dn0 : Nat} {dt0 : Tok} (d0 : PySem.W.nsIn K mainGlobals "LIMITS" = some (some (.ref da0))) (e0 : K.lookup da0 = some ⟨.type "dict", none, .dict de0 dn0, #[]⟩) (f0 : PySem.W.KeysLit w.params de0.toList) (y0 : PySem.W.nsIn K da0 "numbers" = some (some (.int 200 dt0))) :
    ∃ fd : FuncData, (∀ (s : Shared) (v : Value), BindsTo s fd ⟨[v], []⟩ [("script", v)]) ∧ ∀ base : Heap, K.In base → base.Ns mainGlobals mg → TopOk l.prog w K mg base 12 fa fd ["script"] (spLaw K) := by
  have e := hfa.symm.trans (PySem.W.mg_of X G n32)
  cases e
  have F0 := fun_mk (st := scheck_limit) l0 c0 k0
  have b0 := F0.binds (ps := ["what", "many"]) fun _ _ _ _ _ _ us hl => match us, hl with | [_, _], _ => rfl
  have F1 := fun_mk (st := sis_count) l1 c1 k1
  have b1 := F1.binds (ps := ["word"]) fun _ _ _ _ _ _ us hl => match us, hl with | [_], _ => rfl
  have F2 := fun_mk (st := sis_positive) l2 c2 k2
  have b2 := F2.binds (ps := ["word"]) fun _ _ _ _ _ _ us hl => match us, hl with | [_], _ => rfl
  have F3 := fun_mk (st := shas_name_signs) l3 c3 k3
  have b3 := F3.binds (ps := ["word"]) fun _ _ _ _ _ _ us hl => match us, hl with | [_], _ => rfl
  have F4 := fun_mk (st := sis_variable) l4 c4 k4
  have b4 := F4.binds (ps := ["word"]) fun _ _ _ _ _ _ us hl => match us, hl with | [_], _ => rfl
  have F5 := fun_mk (st := smoved_place) l5 c5 k5
  have b5 := F5.binds (ps := ["base", "sign", "number"]) fun _ _ _ _ _ _ us hl => match us, hl with | [_, _, _], _ => rfl
  have F6 := fun_mk (st := ssplit_place) l6 c6 k6
  have b6 := F6.binds (ps := ["word"]) fun _ _ _ _ _ _ us hl => match us, hl with | [_], _ => rfl
  have F7 := fun_mk (st := splace_sides) l7 c7 k7
  have b7 := F7.binds (ps := ["left", "right", "ranges"]) fun _ _ _ _ _ _ us hl => match us, hl with | [_, _, _], _ => rfl
  have F8 := fun_mk (st := scondition_sides) l8 c8 k8
  have b8 := F8.binds (ps := ["words", "ranges"]) fun _ _ _ _ _ _ us hl => match us, hl with | [_, _], _ => rfl
  have F9 := fun_mk (st := sbound_of) l9 c9 k9
  have b9 := F9.binds (ps := ["sides", "sign"]) fun _ _ _ _ _ _ us hl => match us, hl with | [_, _], _ => rfl
  have F10 := fun_mk (st := sbound_cost) l10 c10 k10
  have b10 := F10.binds (ps := ["bound"]) fun _ _ _ _ _ _ us hl => match us, hl with | [_], _ => rfl
  have F11 := fun_mk (st := scompares) l11 c11 k11
  have b11 := F11.binds (ps := ["one", "sign", "other"]) fun _ _ _ _ _ _ us hl => match us, hl with | [_, _, _], _ => rfl
  have F12 := fun_mk (st := svalue_of) l12 c12 k12
  have b12 := F12.binds (ps := ["pair", "values", "last"]) fun _ _ _ _ _ _ us hl => match us, hl with | [_, _, _], _ => rfl
  have F13 := fun_mk (st := smade_sides) l13 c13 k13
  have b13 := F13.binds (ps := ["text", "ranges"]) fun _ _ _ _ _ _ us hl => match us, hl with | [_, _], _ => rfl
  have F14 := fun_mk (st := sread_sides) l14 c14 k14
  have b14 := F14.binds (ps := ["text", "ranges"]) fun _ _ _ _ _ _ us hl => match us, hl with | [_, _], _ => rfl
  have F15 := fun_mk (st := scondition_cost) l15 c15 k15
  have b15 := F15.binds (ps := ["text", "ranges"]) fun _ _ _ _ _ _ us hl => match us, hl with | [_, _], _ => rfl
  have F16 := fun_mk (st := scondition_holds) l16 c16 k16
  have b16 := F16.binds (ps := ["text", "values", "last", "ranges"]) fun _ _ _ _ _ _ us hl => match us, hl with | [_, _, _, _], _ => rfl
  have F17 := fun_mk (st := s_law_bag) l17 c17 k17
  have b17 := F17.binds (ps := ["script"]) fun _ _ _ _ _ _ us hl => match us, hl with | [_], _ => rfl
  have F18 := fun_mk (st := s_law_draw) l18 c18 k18
  have b18 := F18.binds (ps := ["bag", "many"]) fun _ _ _ _ _ _ us hl => match us, hl with | [_, _], _ => rfl
  have F19 := fun_mk (st := s_law_of) l19 c19 k19
  have b19 := F19.binds (ps := ["bag", "menu"]) fun _ _ _ _ _ _ us hl => match us, hl with | [_, _], _ => rfl
  have F20 := fun_mk (st := s_law_pick) l20 c20 k20
  have b20 := F20.binds (ps := ["bag", "menu", "many"]) fun _ _ _ _ _ _ us hl => match us, hl with | [_, _, _], _ => rfl
  have F21 := fun_mk (st := s_law_great) l21 c21 k21
  have b21 := F21.binds (ps := ["bag", "parts"]) fun _ _ _ _ _ _ us hl => match us, hl with | [_, _], _ => rfl
  have F22 := fun_mk (st := s_law_like) l22 c22 k22
  have b22 := F22.binds (ps := ["told", "due"]) fun _ _ _ _ _ _ us hl => match us, hl with | [_, _], _ => rfl
  have F23 := fun_mk (st := s_law_word) l23 c23 k23
  have b23 := F23.binds (ps := ["base", "offset"]) fun _ _ _ _ _ _ us hl => match us, hl with | [_, _], _ => rfl
  have F24 := fun_mk (st := s_law_ways) l24 c24 k24
  have b24 := F24.binds (ps := ["bag", "u", "v", "c"]) fun _ _ _ _ _ _ us hl => match us, hl with | [_, _, _, _], _ => rfl
  have F25 := fun_mk (st := s_law_size_ways) l25 c25 k25
  have b25 := F25.binds (ps := ["name", "c"]) fun _ _ _ _ _ _ us hl => match us, hl with | [_, _], _ => rfl
  have F26 := fun_mk (st := s_law_size_contrary) l26 c26 k26
  have b26 := F26.binds (ps := ["name", "c"]) fun _ _ _ _ _ _ us hl => match us, hl with | [_, _], _ => rfl
  have F27 := fun_mk (st := s_law_alike) l27 c27 k27
  have b27 := F27.binds (ps := ["texts", "ranges", "tries", "cost", "due"]) fun _ _ _ _ _ _ us hl => match us, hl with | [_, _, _, _, _], _ => rfl
  have F28 := fun_mk (st := s_law_tries) l28 c28 k28
  have b28 := F28.binds (ps := ["bag", "u", "v", "c", "names"]) fun _ _ _ _ _ _ us hl => match us, hl with | [_, _, _, _, _], _ => rfl
  have F29 := fun_mk (st := s_law_gap) l29 c29 k29
  have b29 := F29.binds (ps := ["u", "v", "values", "last"]) fun _ _ _ _ _ _ us hl => match us, hl with | [_, _, _, _], _ => rfl
  have F30 := fun_mk (st := s_law_pair) l30 c30 k30
  have b30 := F30.binds (ps := ["bag", "u", "v", "c", "names", "ranges"]) fun _ _ _ _ _ _ us hl => match us, hl with | [_, _, _, _, _, _], _ => rfl
  have F31 := fun_mk (st := s_law_size_kept) l31 c31 k31
  have b31 := F31.binds (ps := ["bag", "name", "ranges"]) fun _ _ _ _ _ _ us hl => match us, hl with | [_, _, _], _ => rfl
  have T : Txt K w mg := ⟨_, _, F0, PySem.W.mg_of X G n0, b0, _, _, F1, PySem.W.mg_of X G n1, b1, _, _, F2, PySem.W.mg_of X G n2, b2, _, _, F3, PySem.W.mg_of X G n3, b3, _, _, F4, PySem.W.mg_of X G n4, b4, _, _, F5, PySem.W.mg_of X G n5, b5, _, _, F6, PySem.W.mg_of X G n6, b6, _, _, F7, PySem.W.mg_of X G n7, b7, _, _, F8, PySem.W.mg_of X G n8, b8, _, _, F9, PySem.W.mg_of X G n9, b9, _, _, F10, PySem.W.mg_of X G n10, b10, _, _, F11, PySem.W.mg_of X G n11, b11, _, _, F12, PySem.W.mg_of X G n12, b12, _, _, F13, PySem.W.mg_of X G n13, b13, _, _, F14, PySem.W.mg_of X G n14, b14, _, _, F15, PySem.W.mg_of X G n15, b15, _, _, F16, PySem.W.mg_of X G n16, b16, _, _, F17, PySem.W.mg_of X G n17, b17, _, _, F18, PySem.W.mg_of X G n18, b18, _, _, F19, PySem.W.mg_of X G n19, b19, _, _, F20, PySem.W.mg_of X G n20, b20, _, _, F21, PySem.W.mg_of X G n21, b21, _, _, F22, PySem.W.mg_of X G n22, b22, _, _, F23, PySem.W.mg_of X G n23, b23, _, _, F24, PySem.W.mg_of X G n24, b24, _, _, F25, PySem.W.mg_of X G n25, b25, _, _, F26, PySem.W.mg_of X G n26, b26, _, _, F27, PySem.W.mg_of X G n27, b27, _, _, F28, PySem.W.mg_of X G n28, b28, _, _, F29, PySem.W.mg_of X G n29, b29, _, _, F30, PySem.W.mg_of X G n30, b30, _, _, F31, PySem.W.mg_of X G n31, b31, PySem.W.mg_none_of X G z0, PySem.W.mg_none_of X G z1, PySem.W.mg_none_of X G z2, PySem.W.mg_none_of X G z3, PySem.W.mg_none_of X G z4, PySem.W.mg_none_of X G z5, PySem.W.mg_none_of X G z6, PySem.W.mg_none_of X G z7, PySem.W.mg_none_of X G z8, PySem.W.mg_none_of X G z9, PySem.W.mg_none_of X G z10, _, PySem.W.mg_of X G i0, _, PySem.W.mg_of X G t0, fun H => .inr ⟨_, te0, tn0, u0, rfl, rfl, by rw [← Array.length_toList, ← v0.length]; decide, v0⟩, _, PySem.W.mg_of X G t1, fun H => .inr ⟨_, te1, tn1, u1, rfl, rfl, by rw [← Array.length_toList, ← v1.length]; decide, v1⟩, _, PySem.W.mg_of X G t2, fun H => .inr ⟨_, te2, tn2, u2, rfl, rfl, by rw [← Array.length_toList, ← v2.length]; decide, v2⟩, _, PySem.W.mg_of X G d0, ⟨de0, dn0, _, e0, f0, y0, ⟨_, rfl⟩⟩⟩
  exact ⟨_, fun s v => .of_eq rfl, fun base _ _ => ok_law T (fun_mk (st := slaw) l32 c32 k32)⟩
end K02
open PySem PySem.W PyProof.Rows in
set_option maxRecDepth 100000 in
set_option maxHeartbeats 0 in
theorem PySem.Challenge.cw_oneweight_k02_one_relation_many_writings_holds : PySem.Challenge.rw_oneweight_k02_one_relation_many_writings.Holds := by
  w_on; o_law; k_head; (case hw => w_witness2)
  k_fill
  refine OW.walk_top (n := 63) (k := 12) (x := "script") (l := PySem.Challenge.rw_oneweight_k02_one_relation_many_writings) (sp := fun w => K02.spLaw _) rfl (by decide) rfl ⟨rfl, by decide, by decide⟩ (fun w h Y => PySem.W.kIn_of Y) ?F (fun _ _ a ms hl hS => ⟨a, ms, rfl, hS, hl, fun _ => rfl⟩)
  case F =>
    intro w mg fa h KX G hmg
    refine' K02.all_mk KX G hmg ?n0 ?l0 ?c0 ?k0 ?n1 ?l1 ?c1 ?k1 ?n2 ?l2 ?c2 ?k2 ?n3 ?l3 ?c3 ?k3 ?n4 ?l4 ?c4 ?k4 ?n5 ?l5 ?c5 ?k5 ?n6 ?l6 ?c6 ?k6 ?n7 ?l7 ?c7 ?k7 ?n8 ?l8 ?c8 ?k8 ?n9 ?l9 ?c9 ?k9 ?n10 ?l10 ?c10 ?k10 ?n11 ?l11 ?c11 ?k11 ?n12 ?l12 ?c12 ?k12 ?n13 ?l13 ?c13 ?k13 ?n14 ?l14 ?c14 ?k14 ?n15 ?l15 ?c15 ?k15 ?n16 ?l16 ?c16 ?k16 ?n17 ?l17 ?c17 ?k17 ?n18 ?l18 ?c18 ?k18 ?n19 ?l19 ?c19 ?k19 ?n20 ?l20 ?c20 ?k20 ?n21 ?l21 ?c21 ?k21 ?n22 ?l22 ?c22 ?k22 ?n23 ?l23 ?c23 ?k23 ?n24 ?l24 ?c24 ?k24 ?n25 ?l25 ?c25 ?k25 ?n26 ?l26 ?c26 ?k26 ?n27 ?l27 ?c27 ?k27 ?n28 ?l28 ?c28 ?k28 ?n29 ?l29 ?c29 ?k29 ?n30 ?l30 ?c30 ?k30 ?n31 ?l31 ?c31 ?k31 ?n32 ?l32 ?c32 ?k32 ?z0 ?z1 ?z2 ?z3 ?z4 ?z5 ?z6 ?z7 ?z8 ?z9 ?z10 ?i0 ?t0 ?u0 ?v0 ?t1 ?u1 ?v1 ?t2 ?u2 ?v2 ?d0 ?e0 ?f0 ?y0
    (case n0 => k_is)
    (case l0 => k_is)
    (case c0 => k_is)
    (case k0 => k_is)
    (case n1 => k_is)
    (case l1 => k_is)
    (case c1 => k_is)
    (case k1 => k_is)
    (case n2 => k_is)
    (case l2 => k_is)
    (case c2 => k_is)
    (case k2 => k_is)
    (case n3 => k_is)
    (case l3 => k_is)
    (case c3 => k_is)
    (case k3 => k_is)
    (case n4 => k_is)
    (case l4 => k_is)
    (case c4 => k_is)
    (case k4 => k_is)
    (case n5 => k_is)
    (case l5 => k_is)
    (case c5 => k_is)
    (case k5 => k_is)
    (case n6 => k_is)
    (case l6 => k_is)
    (case c6 => k_is)
    (case k6 => k_is)
    (case n7 => k_is)
    (case l7 => k_is)
    (case c7 => k_is)
    (case k7 => k_is)
    (case n8 => k_is)
    (case l8 => k_is)
    (case c8 => k_is)
    (case k8 => k_is)
    (case n9 => k_is)
    (case l9 => k_is)
    (case c9 => k_is)
    (case k9 => k_is)
    (case n10 => k_is)
    (case l10 => k_is)
    (case c10 => k_is)
    (case k10 => k_is)
    (case n11 => k_is)
    (case l11 => k_is)
    (case c11 => k_is)
    (case k11 => k_is)
    (case n12 => k_is)
    (case l12 => k_is)
    (case c12 => k_is)
    (case k12 => k_is)
    (case n13 => k_is)
    (case l13 => k_is)
    (case c13 => k_is)
    (case k13 => k_is)
    (case n14 => k_is)
    (case l14 => k_is)
    (case c14 => k_is)
    (case k14 => k_is)
    (case n15 => k_is)
    (case l15 => k_is)
    (case c15 => k_is)
    (case k15 => k_is)
    (case n16 => k_is)
    (case l16 => k_is)
    (case c16 => k_is)
    (case k16 => k_is)
    (case n17 => k_is)
    (case l17 => k_is)
    (case c17 => k_is)
    (case k17 => k_is)
    (case n18 => k_is)
    (case l18 => k_is)
    (case c18 => k_is)
    (case k18 => k_is)
    (case n19 => k_is)
    (case l19 => k_is)
    (case c19 => k_is)
    (case k19 => k_is)
    (case n20 => k_is)
    (case l20 => k_is)
    (case c20 => k_is)
    (case k20 => k_is)
    (case n21 => k_is)
    (case l21 => k_is)
    (case c21 => k_is)
    (case k21 => k_is)
    (case n22 => k_is)
    (case l22 => k_is)
    (case c22 => k_is)
    (case k22 => k_is)
    (case n23 => k_is)
    (case l23 => k_is)
    (case c23 => k_is)
    (case k23 => k_is)
    (case n24 => k_is)
    (case l24 => k_is)
    (case c24 => k_is)
    (case k24 => k_is)
    (case n25 => k_is)
    (case l25 => k_is)
    (case c25 => k_is)
    (case k25 => k_is)
    (case n26 => k_is)
    (case l26 => k_is)
    (case c26 => k_is)
    (case k26 => k_is)
    (case n27 => k_is)
    (case l27 => k_is)
    (case c27 => k_is)
    (case k27 => k_is)
    (case n28 => k_is)
    (case l28 => k_is)
    (case c28 => k_is)
    (case k28 => k_is)
    (case n29 => k_is)
    (case l29 => k_is)
    (case c29 => k_is)
    (case k29 => k_is)
    (case n30 => k_is)
    (case l30 => k_is)
    (case c30 => k_is)
    (case k30 => k_is)
    (case n31 => k_is)
    (case l31 => k_is)
    (case c31 => k_is)
    (case k31 => k_is)
    (case n32 => k_is)
    (case l32 => k_is)
    (case c32 => k_is)
    (case k32 => k_is)
    (case z0 => k_is)
    (case z1 => k_is)
    (case z2 => k_is)
    (case z3 => k_is)
    (case z4 => k_is)
    (case z5 => k_is)
    (case z6 => k_is)
    (case z7 => k_is)
    (case z8 => k_is)
    (case z9 => k_is)
    (case z10 => k_is)
    (case i0 => k_is)
    (case t0 => k_is)
    (case u0 => k_is)
    (case v0 => exact .cons ⟨_, rfl⟩ (.cons ⟨_, rfl⟩ (.cons ⟨_, rfl⟩ (.cons ⟨_, rfl⟩ (.nil)))))
    (case t1 => k_is)
    (case u1 => k_is)
    (case v1 => exact .cons ⟨_, rfl⟩ (.cons ⟨_, rfl⟩ (.cons ⟨_, rfl⟩ (.cons ⟨_, rfl⟩ (.cons ⟨_, rfl⟩ (.nil))))))
    (case t2 => k_is)
    (case u2 => k_is)
    (case v2 => exact .cons ⟨_, rfl⟩ (.cons ⟨_, rfl⟩ (.nil)))
    (case d0 => k_is)
    (case e0 => k_is)
    (case f0 => k_keys)
    (case y0 => k_is)

