-- Written by a program of this session's (pg.py) over the kit's print.
import Derived.Test.YtgdmbhldabeelaaRPFnFormsStandOfAllx0
import Derived.Test.YtgdmbhldabeelaaRPFnFormsStandOfAllx1
namespace Go.Proofs.YtgdmbhldabeelaaR.PFnFormsStandOfAll
open Go.RowKit Go.Proofs.YtgdmbhldabeelaaRW.PrintWords Go.Proofs.YtgdmbhldabeelaaRW.PrintLast Go.Proofs.YtgdmbhldabeelaaRW.PrintMore
attribute [local go_sem] max2_int min2_int max_two min_two max_three min_three max_four min_four   -- for this text's walks alone
set_option linter.unusedVariables false
set_option linter.unusedSimpArgs false

/-! ### impl_HollowsOf: function 6 -/
theorem hol_take1 (xs : List Value) (j : Nat) (h : j < xs.length) : (xs.drop (j * 1)).take 1 = [xs[j]] := by
  rw [Nat.mul_one, List.drop_eq_getElem_cons h]
  rfl
/-- A row of rows, its cells laid from behind: the list from behind. -/
theorem hol_S_rev {α : Type} {d : Kd α} (hsz : d.sz = 1) {e g n cap base : Nat} {w w' : World} {ok : Nat → Prop} {l : List α} {inner : List Value} {f : Nat → Nat} {cur : Array Value} (hn : l.length = n) (hp : 0 < n)
    (h0 : ok g) (hbase : base ≤ g) (hr : Reps ((Kd.tag f d).M w base (fun k => ok k ∧ some k ≠ some g)) 1 l.zipIdx inner)
    (hcap : n ≤ cap ∧ cap ≤ maxLen) (hh : w'.heap[g]? = some (.cells cur e (0, 0))) (hcz : cur.size = cap * 1) (hct : cur.toList.take (n * 1) = inner.reverse)
    (hm : ∀ k, k ≠ g → k < w.heap.size → w'.heap[k]? = w.heap[k]?) : Kd.S d e w' base ok (.slice (some ⟨g, 0, none⟩) n cap) l.reverse := by
  have hil : inner.length = n := by have := hr.1; rw [List.length_zipIdx, hn] at this; omega
  refine ⟨fun k => n - 1 - f k, fun k hk => ?_, inner.reverse, ⟨?_, .inr ⟨g, cap, cur, ?_, hbase, hh, ?_, hcap.2, ?_, ?_⟩⟩, ?_, ?_⟩
  · have : g = k := by simpa [Value.ownBlock] using hk
    exact this ▸ h0
  · simp [hil, hn, Kd.tag, hsz]
  · simp [hn]
  · simp [hn]; exact hcap.1
  · rw [hcz]; simp [Kd.tag, hsz]
  · have : (l.reverse.zipIdx.length) * (Kd.tag (fun k => n - 1 - f k) d).sz = n * 1 := by simp [hn, Kd.tag, hsz]
    rw [this]
    exact hct
  · simp [hil, hn, Kd.tag, hsz]
  · intro j p hj
    have hj2 : j < n := by
      have := (List.getElem?_eq_some_iff.1 hj).1
      simpa [hn] using this
    have hjr : j < l.reverse.length := by simpa [hn] using hj2
    have hp' : p = (l.reverse[j], j) := by
      have h := Kd.zip_at (List.getElem?_eq_getElem hjr)
      rw [h] at hj
      exact (Option.some.inj hj).symm
    have hx : n - 1 - j < l.length := by omega
    have e1 : l.reverse[j] = l[n - 1 - j] := by
      rw [List.getElem_reverse]
      congr 1
      omega
    have hq := hr.2 (n - 1 - j) (l[n - 1 - j], n - 1 - j) (Kd.zip_at (List.getElem?_eq_getElem hx))
    rw [hol_take1 inner _ (by omega)] at hq
    have hz : (Kd.tag (fun k => n - 1 - f k) d).sz = 1 := hsz
    rw [hz, hol_take1 inner.reverse j (by simpa [hil] using hj2), List.getElem_reverse]
    have e2 : inner.length - 1 - j = n - 1 - j := by omega
    rw [hp', e1]
    have hb := (Kd.tag f d).M_bound hq
    have hmv := (Kd.tag f d).M_move (w1 := w') (fun k hk => hm k (fun e => hk.1.2 (by rw [e])) hk.2.2.1) hb
    simp only [e2]
    exact d.M_mono (fun k hk => ⟨hk.1.1, by have h2 : f k = n - 1 - j := hk.2; show n - 1 - f k = j; omega⟩) hmv
def holLt {n : Nat} (i j : Fin n) : Bool := decide (j < i)
theorem hol_swo {n : Nat} : Sort.SWO (holLt (n := n)) where
  irrefl x := by simp [holLt]
  trans x y z h1 h2 := by simp only [holLt, decide_eq_true_eq] at *; omega
  ntrans x y z h1 h2 := by simp only [holLt, decide_eq_false_iff_not] at *; omega
def holD (n : Nat) : Array (Fin n) := Array.ofFn fun i : Fin n => i
theorem holD_size (n : Nat) : (holD n).size = n := by simp [holD]
theorem hol_unique {n : Nat} (h : 0 < n) (d' : Array (Fin n)) : haveI : Inhabited (Fin n) := ⟨⟨0, h⟩⟩
    Sort.PermIn 0 n (holD n) d' → Sort.SortedIn holLt 0 n d' → d' = (holD n).reverse := by
  intro hp hs
  letI : Inhabited (Fin n) := ⟨⟨0, h⟩⟩
  have hanti : ∀ x y : Fin n, holLt x y = false → holLt y x = false → x = y := by
    intro x y h1 h2
    simp only [holLt, decide_eq_false_iff_not] at h1 h2
    omega
  have hrp : Sort.PermIn 0 (holD n).size (holD n) (holD n).reverse := by
    refine ⟨by simp, fun i hi => ?_, ?_⟩
    · have hi : (holD n).size ≤ i := by omega
      rw [getElem!_neg _ _ (by simpa using hi), getElem!_neg _ _ (by simpa using hi)]
    · have e1 : (holD n).reverse.extract 0 (holD n).size = (holD n).reverse := by
        conv => lhs; rw [← Array.size_reverse]
        exact Array.extract_size
      rw [e1, Array.extract_size, Array.toList_reverse]
      exact List.reverse_perm _
  have hrs : Sort.SortedIn holLt 0 (holD n).size (holD n).reverse := by
    intro i j _ hij hj
    rw [holD_size] at hj
    rw [getElem!_pos _ _ (by simp [holD_size]; omega), getElem!_pos _ _ (by simp [holD_size]; omega)]
    simp [holD, holLt]
    omega
  have a1 := Sort.sorted_unique_holds (lt := holLt (n := n)) hol_swo hanti (holD n) d' (by rw [holD_size]; exact hp) (by rw [holD_size]; exact hs)
  have a2 := Sort.sorted_unique_holds (lt := holLt (n := n)) hol_swo hanti (holD n) (holD n).reverse hrp hrs
  exact Array.ext' (a1.trans a2.symm)
/-- What the sorted block holds. -/
theorem hol_cells {n : Nat} (h : 0 < n) (enc : Fin n → Value) (cur : Array Value) (hc : n ≤ cur.size) : haveI : Inhabited (Fin n) := ⟨⟨0, h⟩⟩
    (Sort.putCells enc 0 (holD n).reverse cur).size = cur.size ∧ (Sort.putCells enc 0 (holD n).reverse cur).toList.take n = ((List.finRange n).map enc).reverse := by
  letI : Inhabited (Fin n) := ⟨⟨0, h⟩⟩
  constructor
  · simp [Sort.putCells]
  · apply List.ext_getElem
    · simp [Sort.putCells]; omega
    intro i h1 h2
    have hi : i < n := by simpa using h2
    rw [List.getElem_take, Array.getElem_toList]
    simp only [Sort.putCells, Array.getElem_mapIdx]
    rw [if_pos ⟨Nat.zero_le _, by simp [holD_size]; exact hi⟩, getElem!_pos (holD n).reverse (i - 0) (by simp [holD_size]; omega)]
    simp [holD, List.getElem_reverse]
def holCf (x y : List Int) : Int := if rd x 0 < rd y 0 then -1 else if rd y 0 < rd x 0 then 1 else 0
theorem hol_cmp_f (x y : List Int) (hx : 0 < x.length) (hy : 0 < y.length) : impl_HollowsOf_1.f x y = some (holCf x y) := by
  unfold impl_HollowsOf_1.f holCf
  rw [if_pos (by omega), if_pos (by omega)]
  simp [cmp_Compare_int.f, cmp_isNaN_int.f]
  split
  · rfl
  · split <;> rfl
/-- No list is empty, and their first numbers fall strictly. -/
def holDec (l : List (List Int)) : Bool := decide (∀ i : Fin l.length, 0 < (l[i]).length ∧ ∀ j : Fin l.length, i < j → rd (l[j]) 0 < rd (l[i]) 0)
theorem holCf_lt {l : List (List Int)} (h : holDec l = true) (i j : Fin l.length) : decide (holCf l[i] l[j] < 0) = holLt i j := by
  unfold holDec at h
  have h := of_decide_eq_true h
  unfold holCf holLt
  by_cases c : j < i
  · have := (h j).2 i c
    rw [if_pos this]
    simp [c]
  · by_cases e : i = j
    · subst e
      simp
    · have hij : i < j := by omega
      have := (h i).2 j hij
      rw [if_neg (by omega), if_pos this]
      simp [c]
theorem hol_world_at {n : Nat} [Inhabited (Fin n)] (enc : Fin n → Value) (w : World) (g m : Nat) (dk : Array (Fin n)) (os : Array Obj) {cur : Array Value} {e : Nat} (h : w.heap[g]? = some (.cells cur e (0, 0))) :
    (sortWorld enc w g 0 m dk os).heap[g]? = some (.cells (Sort.putCells enc 0 dk cur) e (0, 0)) := by
  have hl : g < w.heap.size := by
    rcases Nat.lt_or_ge g w.heap.size with h1 | h1
    · exact h1
    · rw [Array.getElem?_eq_none h1] at h
      cases h
  unfold sortWorld
  rw [Sort.heap_grow_old _ _ (by simpa [Sort.putRow, Sort.mapBlock, Sort.ahead] using hl)]
  simp [Sort.putRow, Sort.mapBlock, Sort.ahead, Array.getElem?_modify, h, Sort.onCells]
theorem hol_world_other {n : Nat} [Inhabited (Fin n)] (enc : Fin n → Value) (w : World) (g m : Nat) (dk : Array (Fin n)) (os : Array Obj) (k : Nat) (h : k ≠ g) (hl : k < w.heap.size) :
    (sortWorld enc w g 0 m dk os).heap[k]? = w.heap[k]? := by
  unfold sortWorld
  rw [Sort.heap_grow_old _ _ (by simpa [Sort.putRow, Sort.mapBlock, Sort.ahead] using hl)]
  simp [Sort.putRow, Sort.mapBlock, Sort.ahead, Array.getElem?_modify, Ne.symm h]
theorem hol_world_below {n : Nat} [Inhabited (Fin n)] (enc : Fin n → Value) (w : World) (g m base : Nat) (dk : Array (Fin n)) (os : Array Obj) (hb : base ≤ g) (hw : base ≤ w.heap.size) :
    Below base w (sortWorld enc w g 0 m dk os) :=
  ⟨rfl, rfl, rfl, by simp [sortWorld, Sort.grow, Sort.putRow, Sort.mapBlock, Sort.ahead], fun k hk => hol_world_other enc w g m dk os k (by omega) (by omega)⟩
set_option maxHeartbeats 4000000 in
/-- What slices.SortFunc does at the row of the hollow squares: it lays it from behind. -/
theorem hol_sort {w : World} {base : Nat} {v : Value} {l : List (List Int)} (hl : holDec l = true) (hlen : l.length < 4611686018427387904) (hbw : base ≤ w.heap.size) (hs : Kd.S (Kd.slice 3 (Kd.int .i64)) 27 w base (fun _ => True) v l) :
    Calls Try.prog 33 #[v, .func (.func 34) #[] #[]] w fun e w' => e = .returned (.tuple #[]) ∧ Kd.S (Kd.slice 3 (Kd.int .i64)) 27 w' base (fun _ => True) v l.reverse ∧ Below base w w' := by
  obtain ⟨A, c, rfl⟩ := Kd.S_slice hs
  rcases Nat.eq_zero_or_pos l.length with hz | hp
  · have hnil : l = [] := List.eq_nil_of_length_eq_zero hz
    subst hnil
    refine (AnyF.slices_SortFunc_none { YtgdmbhldabeelaaR.laysF6 with } A c _ w).mono ?_
    rintro e w' ⟨rfl, rfl⟩
    exact ⟨rfl, hs, Below.refl _ _⟩
  · obtain ⟨f, h0, inner, ho, hr⟩ := hs
    rw [List.length_zipIdx] at ho
    obtain ⟨hi, ⟨_, hz⟩ | ⟨g, cap, cur, hv, hb, hh, hcap, hcm, hcz, hct⟩⟩ := ho
    · omega
    · injection hv with hv1 hv2 hv3
      subst hv1 hv3
      have hi1 : inner.length = l.length := by rw [hi]; exact Nat.mul_one _
      have hct1 : cur.toList.take l.length = inner := by
        rw [← hct]
        congr 1
        exact (Nat.mul_one _).symm
      have hcsz : l.length ≤ cur.size := by
        have h2 := congrArg List.length hct1
        rw [List.length_take, hi1] at h2
        have h3 : cur.toList.length = cur.size := rfl
        omega
      have hgl : g < w.heap.size := by
        rcases Nat.lt_or_ge g w.heap.size with h1 | h1
        · exact h1
        · rw [Array.getElem?_eq_none h1] at hh
          cases hh
      letI : Inhabited (Fin l.length) := ⟨⟨0, hp⟩⟩
      obtain ⟨enc, henc⟩ : ∃ enc : Fin l.length → Value, ∀ i, enc i = inner[i.val]'(by omega) := ⟨fun i => inner[i.val]'(by omega), fun _ => rfl⟩
      have hM : ∀ i : Fin l.length, (Kd.slice 3 (Kd.int .i64)).M w base (fun k => k ≠ g) l[i] [enc i] := by
        intro i
        have hq := hr.2 i.val (l[i.val], i.val) (Kd.zip_at (List.getElem?_eq_getElem i.isLt))
        have hz : (Kd.tag f (Kd.slice 3 (Kd.int .i64))).sz = 1 := rfl
        rw [hz, hol_take1 inner _ (by omega)] at hq
        rw [henc i]
        exact (Kd.slice 3 (Kd.int .i64)).M_mono (fun k hk e => hk.1.2 (by rw [e]; rfl)) hq
      have hE : ∀ (i : Fin l.length) (w' : World), (∀ k, k ≠ g → k < w.heap.size → w'.heap[k]? = w.heap[k]?) → ∃ A c, enc i = .slice A (l[i]).length c ∧ (l[i]).length ≤ c ∧ (Kd.int .i64).C w' A (l[i]).length l[i] := by
        intro i w' hk
        have h1 := (Kd.slice 3 (Kd.int .i64)).M_move (w1 := w') (fun k h => hk k h.1 h.2.2.1) ((Kd.slice 3 (Kd.int .i64)).M_bound (hM i))
        obtain ⟨A, c, e, hlc, hC⟩ := (Kd.slice 3 (Kd.int .i64)).K_of_M h1
        exact ⟨A, c, (List.cons.inj e).1, hlc, hC⟩
      have h1 : OneCell enc := by
        intro i
        obtain ⟨A, c, e, _⟩ := hE i w (fun _ _ _ => rfl)
        rw [e]
        rfl
      have hne : ∀ i : Fin l.length, 0 < (l[i]).length := fun i => by
        have h := hl
        unfold holDec at h
        exact ((of_decide_eq_true h) i).1
      have hlt : ltOf (fun i j : Fin l.length => holCf l[i] l[j]) = holLt := by
        funext i j
        exact holCf_lt hl i j
      have hO : Sort.SWO (ltOf (fun i j : Fin l.length => holCf l[i] l[j])) := by rw [hlt]; exact hol_swo
      have eg : ∀ args w, (callFunc 34 args).run Try.prog w = .ok (.enter 34 args) w := enters_of Try.func34 (by kernel_rfl) rfl
      have hcmp : CmpLays1 Try.prog 34 #[] enc (fun i j : Fin l.length => holCf l[i] l[j]) g 0 (holD l.length).size w := by
        intro m os dk hd x y
        obtain ⟨A1, c1, e1, l1, C1⟩ := hE x _ (hol_world_other enc w g m dk os)
        obtain ⟨A2, c2, e2, l2, C2⟩ := hE y _ (hol_world_other enc w g m dk os)
        rw [e1, e2]
        refine (impl_HollowsOf_1.calls A1 c1 _ A2 c2 _ (holCf l[x] l[y]) _ C1 l1 C2 l2 (hol_cmp_f _ _ (hne x) (hne y))).mono ?_
        rintro e w' ⟨rfl, nd, rfl⟩
        exact ⟨rfl, nd, #[], by rw [Sort.grow_empty]⟩
      have hH : Sort.Holds enc w g 0 (holD l.length) := by
        intro j hj
        rw [holD_size] at hj
        have hjc : j < cur.size := by omega
        constructor
        · rw [getElem!_pos (holD l.length) j (by rw [holD_size]; exact hj)]
          simp only [World.cell?, hh, Option.isSome_none, Bool.false_eq_true, if_false, Nat.zero_add]
          rw [henc, Array.getElem?_eq_getElem hjc]
          have e3 : inner[j]? = some cur[j] := by
            rw [← hct1, List.getElem?_take, if_pos hj, Array.getElem?_toList, Array.getElem?_eq_getElem hjc]
          simp only [holD, Array.getElem_ofFn]
          rw [List.getElem?_eq_getElem (by omega)] at e3
          exact e3.symm
        · simp [World.frozen?, hh]
      have hc := Any.slices_SortFunc YtgdmbhldabeelaaR.laysF6 enc h1 (fun i j : Fin l.length => holCf l[i] l[j]) hO 34 #[] g 0 c (holD l.length) w eg hcmp hH hgl (by rw [holD_size]; exact hlen)
      rw [holD_size] at hc
      refine hc.mono ?_
      rintro e w' ⟨rfl, d', m, os, hpm, hst, rfl⟩
      rw [hlt] at hst
      have hd := hol_unique hp d' hpm hst
      subst hd
      have hcc := hol_cells hp enc cur hcsz
      have hin : inner = (List.finRange l.length).map enc := by
        apply List.ext_getElem
        · simp [hi1]
        intro i a b
        simp [henc]
      refine ⟨rfl, hol_S_rev (d := Kd.slice 3 (Kd.int .i64)) rfl (w := w) (inner := inner) (f := f) rfl hp trivial hb ?_ ⟨hcap, hcm⟩ (hol_world_at enc w g m _ os hh) (by rw [hcc.1]; exact hcz) (by rw [Nat.mul_one, hcc.2, hin]) (hol_world_other enc w g m _ os), hol_world_below enc w g m base _ os hb hbw⟩
      exact hr
def impl_HollowsOf.l0 : Nat → Int → List (List Int) → Int → Option ((List (List Int)) × Bool)
  | 0, _, _, _ => none
  | k + 1, x0, x4, x5 => if (wrap64 ((wrap64 (4 * x5)) * (wrap64 (x5 + 1)))) ≤ x0 then (if (wrap64 (4 * x5)) = 0 then (none) else (if (Int.tmod x0 (wrap64 (4 * x5))) = 0 then (if x4.length < 5864062014805 then (impl_HollowsOf.l0 k x0 (x4 ++ [(([wrap64 ((wrap64 (Int.tdiv x0 (wrap64 (4 * x5)))) + x5), x5] : List Int))]) (wrap64 (x5 + 1))) else (none)) else (impl_HollowsOf.l0 k x0 x4 (wrap64 (x5 + 1))))) else (if holDec x4 = true ∧ x4.length < 4611686018427387904 then (some (x4.reverse, true)) else (none))
def impl_HollowsOf.f (k : Nat) (a0 : Int) : Option ((List (List Int)) × Bool) := (impl_isSoldiers.f a0).bind fun t117 => (if t117 = true then (impl_HollowsOf.l0 k a0 (([] : List (List Int))) 1) else (some (([] : List (List Int)), false)))
theorem impl_HollowsOf.mono_l : ∀ k, (∀ y0 y1 y2, LeO (impl_HollowsOf.l0 k y0 y1 y2) (impl_HollowsOf.l0 (k + 1) y0 y1 y2))
  | 0 => fun _ _ _ r h => by simp [impl_HollowsOf.l0] at h
  | k + 1 => by
    have ih0 := impl_HollowsOf.mono_l k
    · intro y0 y1 y2
      unfold impl_HollowsOf.l0
      repeat' first
      | (with_reducible exact ih0 _ _ _)
      | (with_reducible exact LeO.refl _)
      | (with_reducible exact LeO.none _)
      | (with_reducible refine LeO.ite ?_ ?_)
      | (with_reducible refine LeO.bind ?_ (fun _ => ?_))
      | exact ih0 _ _ _
      | exact LeO.none _
      | refine LeO.ite ?_ ?_
      | refine LeO.bind ?_ (fun _ => ?_)
theorem impl_HollowsOf.mono : ∀ a0 k, LeO (impl_HollowsOf.f k a0) (impl_HollowsOf.f (k + 1) a0) := by
  intro a0 k
  have ih0 := impl_HollowsOf.mono_l k
  unfold impl_HollowsOf.f
  repeat' first
      | (with_reducible exact ih0 _ _ _)
      | (with_reducible exact LeO.refl _)
      | (with_reducible exact LeO.none _)
      | (with_reducible refine LeO.ite ?_ ?_)
      | (with_reducible refine LeO.bind ?_ (fun _ => ?_))
      | exact ih0 _ _ _
      | exact LeO.none _
      | refine LeO.ite ?_ ?_
      | refine LeO.bind ?_ (fun _ => ?_)
set_option maxHeartbeats 8000000 in
set_option maxRecDepth 100000 in
theorem impl_HollowsOf.calls (k : Nat) (a0 : Int) (r1 : List (List Int)) (r2 : Bool) (w : World) (h : impl_HollowsOf.f k a0 = some (r1, r2)) :
    Calls Try.prog 6 #[.int .i64 a0] w fun e w' => ∃ v0_ : Value, e = .returned (.tuple #[v0_, .bool r2]) ∧ Kd.S (Kd.slice 3 (Kd.int .i64)) 27 w' w.heap.size (fun _ => True) v0_ r1 ∧ Below w.heap.size w w' := by
  have HB := Aside0.mk (Below.refl w.heap.size w)
  have H : ((impl_isSoldiers.f a0).bind fun t117 => (if t117 = true then (impl_HollowsOf.l0 k a0 (([] : List (List Int))) 1) else (some (([] : List (List Int)), false)))) = some (r1, r2) := h
  clear h
  replace H := Option.bind_eq_some_iff.mp H
  obtain ⟨t117, A20, H⟩ := H
  replace H : (if t117 = true then (impl_HollowsOf.l0 k a0 (([] : List (List Int))) 1) else (some (([] : List (List Int)), false))) = some (r1, r2) := H
  have A2 := Aside0.mk A20
  clear A20
  by_cases c3 : t117 = true
  · subst c3
    have H1 : (impl_HollowsOf.l0 k a0 (([] : List (List Int))) 1) = some (r1, r2) := by rw [if_pos rfl] at H; exact H
    clear H
    have H := H1
    clear H1
    obtain ⟨y118, hy118⟩ : ∃ y_ : List (List Int), y_ = (([] : List (List Int))) := ⟨_, rfl⟩
    replace H : (impl_HollowsOf.l0 k a0 y118 1) = some (r1, r2) := by first | (rw [hy118]; with_reducible exact H) | (have H2_ := (Option.bind_some _ _).symm.trans H; rw [hy118]; with_reducible exact H2_) | (have H2_ := (Option.bind_some _ _).symm.trans H; with_reducible exact H2_) | with_reducible exact H | (rw [hy118]; exact H) | exact H
    have Ny118 := Aside0.mk hy118
    clear hy118
    have H' := Aside0.mk H
    clear H
    go_enter Try.func6, Try.ntmps6
    go_wp2_with (first | ((with_reducible refine gate_callee (f := 31) rfl ?_); refine goesL_ (some 7) rfl rfl Try.func31 (by kernel_rfl) rfl #[.int .i64 a0] rfl (by (try simp only [List.map_toArray, List.map_cons, List.map_nil]); first | done | rfl | (simp only [List.length_drop, List.length_take]; rfl)) ?_; (with_reducible refine (impl_isSoldiers.calls a0 true _ A2.out).mono ?_); rintro e w' ⟨rfl, ⟨nd, rfl⟩⟩; refine ⟨_, rfl, ?_⟩) | ((with_reducible refine gate_dst (N := 9) rfl ?_); refine Kd.S_lit (Kd.slice 3 (Kd.int .i64)) _ 27 ?hg (N := 9) ?hd (xs := ([] : List (List Int))) (inner := []) (ok := fun _ => True) (okp := fun _ => True) ?hr ?hp (fun _ hk => hk) trivial (Below.refl _ _) (Nat.le_refl _) (by simp) ?_; (case hd => rfl); (case hg => rfl); (case hr => first | (go_simp; done) | (go_simp; rfl)); (case hp => exact (Reps.none _ _)); intro v119 w4 ho5 hb hg_ hnew_; clear hg_ hnew_; (first | rw [← Ny118.out] at ho5 | (simp only [Int.reduceToNat] at ho5; rw [← Ny118.out] at ho5)); have n0_ := Aside0.mk (Kd.S_lower ho5 (below_size (by repeat (first | (with_reducible first | exact HB.out | apply below_alloc | apply pw_below_drewN | apply below_drew1) | exact HB.out)))); have n1_ := Aside0.mk (below_step (by repeat (first | (with_reducible first | exact HB.out | apply below_alloc | apply pw_below_drewN | apply below_drew1) | exact HB.out)) hb); clear HB; have HO120 := n0_; have HB := n1_; clear n0_ n1_; clear hb ho5))
    go_loopg [4, 5] k (fun kq v4 v5 w' => ∃ (x4_1 : List (List Int)) (x5_1 : Int), v5 = .int .i64 x5_1 ∧ Aside0 (impl_HollowsOf.l0 kq a0 x4_1 x5_1 = some (r1, r2)) ∧ Aside0 (kq ≤ k) ∧ Aside0 (Kd.S (Kd.slice 3 (Kd.int .i64)) 27 w' w.heap.size (fun _ => True) v4 x4_1) ∧ Aside0 (Below w.heap.size w w'))
    case atStart => exact ⟨(y118), (1), (by first | rfl | (simp; done) | (simp [*]; done)), H', ⟨Nat.le_refl _⟩, ⟨by (with_reducible repeat (first | apply Kd.S_alloc | apply Kd.S_drewN | apply Kd.S_drew)); exact HO120.out⟩, ⟨by repeat (first | (with_reducible first | exact HB.out | apply below_alloc | apply pw_below_drewN | apply below_drew1) | exact HB.out)⟩⟩
    case round =>
      clear H'
      try clear p2
      try clear c3
      obtain ⟨x4_1, x5_1, rfl, HA, HK1, HO_4, HB⟩ := hrel
      cases gk with
      | zero => exact absurd HA.out (by simp [impl_HollowsOf.l0])
      | succ k1 =>
        have H := HA.out
        clear HA
        simp only [impl_HollowsOf.l0] at H
        by_cases c6 : (wrap64 ((wrap64 (4 * x5_1)) * (wrap64 (x5_1 + 1)))) ≤ a0
        · rw [if_pos c6] at H
          have c6b0 : decide ((wrap64 ((wrap64 (4 * x5_1)) * (wrap64 (x5_1 + 1)))) ≤ a0) = true := decide_eq_true c6
          clear c6
          by_cases c7 : (wrap64 (4 * x5_1)) = 0
          · rw [if_pos c7] at H
            exact absurd H (by simp)
          · rw [if_neg c7] at H
            have c7b0 : ((wrap64 (4 * x5_1)) == 0) = false := beq_eq_false_iff_ne.mpr c7
            have c7b1 : ((wrap64 (4 * x5_1)) != 0) = true := bne_iff_ne.mpr c7
            by_cases c8 : (Int.tmod a0 (wrap64 (4 * x5_1))) = 0
            · rw [if_pos c8] at H
              have c8b0 : ((Int.tmod a0 (wrap64 (4 * x5_1))) == 0) = true := beq_iff_eq.mpr c8
              have c8b1 : ((Int.tmod a0 (wrap64 (4 * x5_1))) != 0) = false := bne_eq_false_iff_eq.mpr c8
              clear c8
              obtain ⟨y121, hy121⟩ : ∃ y_ : List Int, y_ = (([wrap64 ((wrap64 (Int.tdiv a0 (wrap64 (4 * x5_1)))) + x5_1), x5_1] : List Int)) := ⟨_, rfl⟩
              replace H : (if x4_1.length < 5864062014805 then (impl_HollowsOf.l0 k1 a0 (x4_1 ++ [y121]) (wrap64 (x5_1 + 1))) else (none)) = some (r1, r2) := by first | (rw [hy121]; with_reducible exact H) | (have H2_ := (Option.bind_some _ _).symm.trans H; rw [hy121]; with_reducible exact H2_) | (have H2_ := (Option.bind_some _ _).symm.trans H; with_reducible exact H2_) | with_reducible exact H | (rw [hy121]; exact H) | exact H
              have Ny121 := Aside0.mk hy121
              clear hy121
              by_cases c9 : x4_1.length < 5864062014805
              · rw [if_pos c9] at H
                have LMc9 := Aside0.mk c9
                clear c9
                obtain ⟨y124, hy124⟩ : ∃ y_ : List (List Int), y_ = (x4_1 ++ [y121]) := ⟨_, rfl⟩
                replace H : (impl_HollowsOf.l0 k1 a0 y124 (wrap64 (x5_1 + 1))) = some (r1, r2) := by first | (rw [hy124]; with_reducible exact H) | (have H2_ := (Option.bind_some _ _).symm.trans H; rw [hy124]; with_reducible exact H2_) | (have H2_ := (Option.bind_some _ _).symm.trans H; with_reducible exact H2_) | with_reducible exact H | (rw [hy124]; exact H) | exact H
                have Ny124 := Aside0.mk hy124
                clear hy124
                have H' := Aside0.mk H
                clear H
                go_wp2_with (first | ((with_reducible refine gate_dst (N := 32) rfl ?_); refine Kd.R_lit (Kd.int .i64) _ 3 ?hg (N := 32) ?hd (xs := ([wrap64 ((wrap64 (Int.tdiv a0 (wrap64 (4 * x5_1)))) + x5_1), x5_1] : List Int)) (inner := [.int .i64 (wrap64 ((wrap64 (Int.tdiv a0 (wrap64 (4 * x5_1)))) + x5_1)), .int .i64 x5_1]) (ok := fun _ => True) (okp := fun _ => True) ?hr ?hp (fun _ hk => hk) trivial (Below.refl _ _) (Nat.le_refl _) (by simp) ?_; (case hd => rfl); (case hg => rfl); (case hr => first | (go_simp; done) | (go_simp; rfl)); (case hp => exact (Reps.one (show Kd.M (Kd.int .i64) _ _ _ (wrap64 ((wrap64 (Int.tdiv a0 (wrap64 (4 * x5_1)))) + x5_1)) [.int .i64 (wrap64 ((wrap64 (Int.tdiv a0 (wrap64 (4 * x5_1)))) + x5_1))] from rfl) (Reps.one (show Kd.M (Kd.int .i64) _ _ _ x5_1 [.int .i64 x5_1] from rfl) (Reps.none _ _)))); intro v122 w10 ho11 hb hg_ hnew_; clear hg_ hnew_; (first | rw [← Ny121.out] at ho11 | (simp only [Int.reduceToNat] at ho11; rw [← Ny121.out] at ho11)); have n0_ := Aside0.mk (Kd.S_elder' (by (with_reducible repeat (first | apply Kd.S_alloc | apply Kd.S_drewN | apply Kd.S_drew)); exact HO_4.out) (Kd.R_base ho11) hb); have n1_ := Aside0.mk (Kd.R_lower ho11 (below_size (by repeat (first | (with_reducible first | exact HB.out | apply below_alloc | apply pw_below_drewN | apply below_drew1) | exact HB.out)))); have n2_ := Aside0.mk (below_step (by repeat (first | (with_reducible first | exact HB.out | apply below_alloc | apply pw_below_drewN | apply below_drew1) | exact HB.out)) hb); clear HO_4; clear HB; have HO_4 := n0_; have HO123 := n1_; have HB := n2_; clear n0_ n1_ n2_; clear hb ho11; obtain ⟨Ao13, co13, eo13⟩ := Kd.R_slice HO123.out; subst eo13) | ((with_reducible refine gate_builtin (b := .append) (xs := #[.tmp 24, .tmp 33]) rfl ?_); at_builtin; refine Kd.S_append (Kd.slice 3 (Kd.int .i64)) (w0 := w) w.heap.size rfl (.tmp 24) (.tmp 33) 22 27 (.slice none 0 0) 24 rfl Try.underlying22 info27 rfl (by decide) (by omega) u4 x4_1 y121 [.slice Ao13 y121.length co13] (fun _ => True) (fun k_ => some k_ = (.slice Ao13 y121.length co13 : Value).ownBlock) rfl rfl ?aP (fun k_ hk_ => ((Kd.R_mono (ok' := fun k_ => ((fun _ => True)) k_ ∧ some k_ ≠ (u4 : Value).ownBlock) (Kd.R_apart' (HO123.out) (Kd.S_typed HO_4.out) (by decide)) (fun k_ hk => ⟨trivial, hk.2⟩))).1 k_ hk_.symm) ?aF ?aO ?aB ?aS ?aL ?_; (case aP => exact Kd.M_row (Kd.R_mono (Kd.R_tight rfl (Kd.R_mono (ok' := fun k_ => ((fun _ => True)) k_ ∧ some k_ ≠ (u4 : Value).ownBlock) (Kd.R_apart' (HO123.out) (Kd.S_typed HO_4.out) (by decide)) (fun k_ hk => ⟨trivial, hk.2⟩))) (fun _ h_ => h_))); (case aB => exact (by repeat (first | (with_reducible first | exact HB.out | apply below_alloc | apply pw_below_drewN | apply below_drew1) | exact HB.out))); (case aF => exact (fun _ _ => trivial)); (case aO => exact (by (with_reducible repeat (first | apply Kd.S_alloc | apply Kd.S_drewN | apply Kd.S_drew)); exact Kd.S_mono HO_4.out (fun k_ hk => ⟨trivial, fun e_ => hk.2 e_⟩))); (case aS => exact (below_size (by repeat (first | (with_reducible first | exact HB.out | apply below_alloc | apply pw_below_drewN | apply below_drew1) | exact HB.out)))); (case aL => have := LMc9.out; omega); intro v125 w12 ho hb hg hat; rw [← Ny124.out] at ho; have n0_ := Aside0.mk (hb); have n1_ := Aside0.mk (ho); clear HB; clear HO_4; clear HO123; have HB := n0_; have HO126 := n1_; clear n0_ n1_; clear ho hb hg hat))
                go_roundg k1
                case measure => have := HK1.out; omega
                case rel => exact ⟨(y124), (wrap64 (x5_1 + 1)), (by first | rfl | (simp; done) | (simp [*]; done)), H', ⟨by have := HK1.out; omega⟩, ⟨by (with_reducible repeat (first | apply Kd.S_alloc | apply Kd.S_drewN | apply Kd.S_drew)); exact HO126.out⟩, ⟨by repeat (first | (with_reducible first | exact HB.out | apply below_alloc | apply pw_below_drewN | apply below_drew1) | exact HB.out)⟩⟩
              · rw [if_neg c9] at H
                exact absurd H (by simp)
            · rw [if_neg c8] at H
              have c8b0 : ((Int.tmod a0 (wrap64 (4 * x5_1))) == 0) = false := beq_eq_false_iff_ne.mpr c8
              have c8b1 : ((Int.tmod a0 (wrap64 (4 * x5_1))) != 0) = true := bne_iff_ne.mpr c8
              have H' := Aside0.mk H
              clear H
              go_wp2
              go_roundg k1
              case measure => have := HK1.out; omega
              case rel => exact ⟨(x4_1), (wrap64 (x5_1 + 1)), (by first | rfl | (simp; done) | (simp [*]; done)), H', ⟨by have := HK1.out; omega⟩, ⟨by (with_reducible repeat (first | apply Kd.S_alloc | apply Kd.S_drewN | apply Kd.S_drew)); exact HO_4.out⟩, ⟨by repeat (first | (with_reducible first | exact HB.out | apply below_alloc | apply pw_below_drewN | apply below_drew1) | exact HB.out)⟩⟩
        · rw [if_neg c6] at H
          have c6b0 : decide ((wrap64 ((wrap64 (4 * x5_1)) * (wrap64 (x5_1 + 1)))) ≤ a0) = false := decide_eq_false c6
          clear c6
          by_cases c10 : holDec x4_1 = true ∧ x4_1.length < 4611686018427387904
          · rw [if_pos c10] at H
            simp only [Option.some.injEq, Prod.mk.injEq] at H
            obtain ⟨rfl, rfl⟩ := H
            have C10 := Aside0.mk c10
            clear c10
            go_wp2_with fail
            refine (hol_sort C10.out.1 C10.out.2 HB.out.size HO_4.out).mono ?_
            rintro e w' ⟨rfl, hS2, hB2⟩
            have HS2 := Aside0.mk hS2
            have HB2 := Aside0.mk (HB.out.trans hB2)
            clear hS2 hB2
            go_wp2_with fail
            go_ret2
            exact ⟨_, rfl, HS2.out, HB2.out⟩
          · rw [if_neg c10] at H
            exact absurd H (by simp)
  · replace c3 := Bool.eq_false_iff.mpr c3
    subst c3
    have H1 : (some (([] : List (List Int)), false)) = some (r1, r2) := by rw [if_neg (show ¬ (false = true) by decide)] at H; exact H
    clear H
    have H := H1
    clear H1
    simp only [Option.some.injEq, Prod.mk.injEq] at H
    obtain ⟨rfl, rfl⟩ := H
    go_enter Try.func6, Try.ntmps6
    go_wp2_with (first | ((with_reducible refine gate_callee (f := 31) rfl ?_); refine goesL_ (some 7) rfl rfl Try.func31 (by kernel_rfl) rfl #[.int .i64 a0] rfl (by (try simp only [List.map_toArray, List.map_cons, List.map_nil]); first | done | rfl | (simp only [List.length_drop, List.length_take]; rfl)) ?_; (with_reducible refine (impl_isSoldiers.calls a0 false _ A2.out).mono ?_); rintro e w' ⟨rfl, ⟨nd, rfl⟩⟩; refine ⟨_, rfl, ?_⟩))
    go_ret2
    exact ⟨_, by first | rfl | (simp [errW_none, errW_some] <;> rfl) | (simp [*, errW_none, errW_some] <;> rfl), by first | exact Kd.S_nil _ _ _ _ _ | exact Kd.N_nil _ _ _ _ _ | exact Kd.V_nil _ _ _ _ _ | exact Kd.Q_nil _ _ _ _ _ | exact Kd.R_nil _ _ _ _ _, by repeat (first | (with_reducible first | exact HB.out | apply below_alloc | apply pw_below_drewN | apply below_drew1) | exact HB.out)⟩

/-! ### spec_HollowsOf: function 7 -/
def spec_HollowsOf.l0 : Nat → Int → List (List Int) → Int → Option ((List (List Int)) × Bool)
  | 0, _, _, _ => none
  | k + 1, x0, x4, x5 => if x5 > 0 then (if x5 = 0 then (none) else (if (Int.tmod (wrap64 (Int.tdiv x0 4)) x5) = 0 then (if (wrap64 ((wrap64 (Int.tdiv (wrap64 (Int.tdiv x0 4)) x5)) + x5)) > (wrap64 (2 * x5)) then (if x4.length < 5864062014805 then (spec_HollowsOf.l0 k x0 (x4 ++ [(([wrap64 ((wrap64 (Int.tdiv (wrap64 (Int.tdiv x0 4)) x5)) + x5), x5] : List Int))]) (wrap64 (x5 - 1))) else (none)) else (spec_HollowsOf.l0 k x0 x4 (wrap64 (x5 - 1)))) else (spec_HollowsOf.l0 k x0 x4 (wrap64 (x5 - 1))))) else (some (x4, true))
def spec_HollowsOf.f (k : Nat) (a0 : Int) : Option ((List (List Int)) × Bool) := (spec_foSoldiers.f a0).bind fun t125 => (if t125 = true then (if (Int.tmod a0 4) = 0 then (spec_HollowsOf.l0 k a0 ([] : List (List Int)) (wrap64 (Int.tdiv a0 4))) else (some (([] : List (List Int)), true))) else (some (([] : List (List Int)), false)))
theorem spec_HollowsOf.mono_l : ∀ k, (∀ y0 y1 y2, LeO (spec_HollowsOf.l0 k y0 y1 y2) (spec_HollowsOf.l0 (k + 1) y0 y1 y2))
  | 0 => fun _ _ _ r h => by simp [spec_HollowsOf.l0] at h
  | k + 1 => by
    have ih0 := spec_HollowsOf.mono_l k
    · intro y0 y1 y2
      unfold spec_HollowsOf.l0
      repeat' first
      | (with_reducible exact ih0 _ _ _)
      | (with_reducible exact LeO.refl _)
      | (with_reducible exact LeO.none _)
      | (with_reducible refine LeO.ite ?_ ?_)
      | (with_reducible refine LeO.bind ?_ (fun _ => ?_))
      | exact ih0 _ _ _
      | exact LeO.none _
      | refine LeO.ite ?_ ?_
      | refine LeO.bind ?_ (fun _ => ?_)
theorem spec_HollowsOf.mono : ∀ a0 k, LeO (spec_HollowsOf.f k a0) (spec_HollowsOf.f (k + 1) a0) := by
  intro a0 k
  have ih0 := spec_HollowsOf.mono_l k
  unfold spec_HollowsOf.f
  repeat' first
      | (with_reducible exact ih0 _ _ _)
      | (with_reducible exact LeO.refl _)
      | (with_reducible exact LeO.none _)
      | (with_reducible refine LeO.ite ?_ ?_)
      | (with_reducible refine LeO.bind ?_ (fun _ => ?_))
      | exact ih0 _ _ _
      | exact LeO.none _
      | refine LeO.ite ?_ ?_
      | refine LeO.bind ?_ (fun _ => ?_)
set_option maxHeartbeats 8000000 in
set_option maxRecDepth 100000 in
theorem spec_HollowsOf.calls (k : Nat) (a0 : Int) (r1 : List (List Int)) (r2 : Bool) (w : World) (h : spec_HollowsOf.f k a0 = some (r1, r2)) :
    Calls Try.prog 7 #[.int .i64 a0] w fun e w' => ∃ v0_ : Value, e = .returned (.tuple #[v0_, .bool r2]) ∧ Kd.S (Kd.slice 3 (Kd.int .i64)) 27 w' w.heap.size (fun _ => True) v0_ r1 ∧ Below w.heap.size w w' := by
  have HB := Aside0.mk (Below.refl w.heap.size w)
  have H : ((spec_foSoldiers.f a0).bind fun t125 => (if t125 = true then (if (Int.tmod a0 4) = 0 then (spec_HollowsOf.l0 k a0 ([] : List (List Int)) (wrap64 (Int.tdiv a0 4))) else (some (([] : List (List Int)), true))) else (some (([] : List (List Int)), false)))) = some (r1, r2) := h
  clear h
  replace H := Option.bind_eq_some_iff.mp H
  obtain ⟨t125, A20, H⟩ := H
  replace H : (if t125 = true then (if (Int.tmod a0 4) = 0 then (spec_HollowsOf.l0 k a0 ([] : List (List Int)) (wrap64 (Int.tdiv a0 4))) else (some (([] : List (List Int)), true))) else (some (([] : List (List Int)), false))) = some (r1, r2) := H
  have A2 := Aside0.mk A20
  clear A20
  by_cases c3 : t125 = true
  · subst c3
    have H1 : (if (Int.tmod a0 4) = 0 then (spec_HollowsOf.l0 k a0 ([] : List (List Int)) (wrap64 (Int.tdiv a0 4))) else (some (([] : List (List Int)), true))) = some (r1, r2) := by rw [if_pos rfl] at H; exact H
    clear H
    have H := H1
    clear H1
    by_cases c4 : (Int.tmod a0 4) = 0
    · rw [if_pos c4] at H
      have c4b0 : ((Int.tmod a0 4) == 0) = true := beq_iff_eq.mpr c4
      have c4b1 : ((Int.tmod a0 4) != 0) = false := bne_eq_false_iff_eq.mpr c4
      clear c4
      have H' := Aside0.mk H
      clear H
      go_enter Try.func7, Try.ntmps7
      go_wp2_with (first | ((with_reducible refine gate_callee (f := 32) rfl ?_); refine goesL_ (some 8) rfl rfl Try.func32 (by kernel_rfl) rfl #[.int .i64 a0] rfl (by (try simp only [List.map_toArray, List.map_cons, List.map_nil]); first | done | rfl | (simp only [List.length_drop, List.length_take]; rfl)) ?_; (with_reducible refine (spec_foSoldiers.calls a0 true _ A2.out).mono ?_); rintro e w' ⟨rfl, ⟨nd, rfl⟩⟩; refine ⟨_, rfl, ?_⟩))
      go_loopg [4, 5] k (fun kq v4 v5 w' => ∃ (x4_1 : List (List Int)) (x5_1 : Int), v5 = .int .i64 x5_1 ∧ Aside0 (spec_HollowsOf.l0 kq a0 x4_1 x5_1 = some (r1, r2)) ∧ Aside0 (kq ≤ k) ∧ Aside0 (Kd.S (Kd.slice 3 (Kd.int .i64)) 27 w' w.heap.size (fun _ => True) v4 x4_1) ∧ Aside0 (Below w.heap.size w w'))
      case atStart => exact ⟨(([] : List (List Int))), (wrap64 (Int.tdiv a0 4)), (by first | rfl | (simp; done) | (simp [*]; done)), H', ⟨Nat.le_refl _⟩, ⟨by first | exact Kd.S_nil _ _ _ _ _ | exact Kd.N_nil _ _ _ _ _ | exact Kd.V_nil _ _ _ _ _ | exact Kd.Q_nil _ _ _ _ _ | exact Kd.R_nil _ _ _ _ _⟩, ⟨by repeat (first | (with_reducible first | exact HB.out | apply below_alloc | apply pw_below_drewN | apply below_drew1) | exact HB.out)⟩⟩
      case round =>
        clear H'
        try clear p2
        try clear c3
        try clear c4
        try clear c4b0
        try clear c4b1
        obtain ⟨x4_1, x5_1, rfl, HA, HK1, HO_4, HB⟩ := hrel
        cases gk with
        | zero => exact absurd HA.out (by simp [spec_HollowsOf.l0])
        | succ k1 =>
          have H := HA.out
          clear HA
          simp only [spec_HollowsOf.l0] at H
          by_cases c5 : x5_1 > 0
          · rw [if_pos c5] at H
            have c5b0 : decide (0 < x5_1) = true := decide_eq_true c5
            clear c5
            by_cases c6 : x5_1 = 0
            · rw [if_pos c6] at H
              exact absurd H (by simp)
            · rw [if_neg c6] at H
              have c6b0 : (x5_1 == 0) = false := beq_eq_false_iff_ne.mpr c6
              have c6b1 : (x5_1 != 0) = true := bne_iff_ne.mpr c6
              by_cases c7 : (Int.tmod (wrap64 (Int.tdiv a0 4)) x5_1) = 0
              · rw [if_pos c7] at H
                have c7b0 : ((Int.tmod (wrap64 (Int.tdiv a0 4)) x5_1) == 0) = true := beq_iff_eq.mpr c7
                have c7b1 : ((Int.tmod (wrap64 (Int.tdiv a0 4)) x5_1) != 0) = false := bne_eq_false_iff_eq.mpr c7
                clear c7
                by_cases c8 : (wrap64 ((wrap64 (Int.tdiv (wrap64 (Int.tdiv a0 4)) x5_1)) + x5_1)) > (wrap64 (2 * x5_1))
                · rw [if_pos c8] at H
                  have c8b0 : decide ((wrap64 (2 * x5_1)) < (wrap64 ((wrap64 (Int.tdiv (wrap64 (Int.tdiv a0 4)) x5_1)) + x5_1))) = true := decide_eq_true c8
                  clear c8
                  obtain ⟨y126, hy126⟩ : ∃ y_ : List Int, y_ = (([wrap64 ((wrap64 (Int.tdiv (wrap64 (Int.tdiv a0 4)) x5_1)) + x5_1), x5_1] : List Int)) := ⟨_, rfl⟩
                  replace H : (if x4_1.length < 5864062014805 then (spec_HollowsOf.l0 k1 a0 (x4_1 ++ [y126]) (wrap64 (x5_1 - 1))) else (none)) = some (r1, r2) := by first | (rw [hy126]; with_reducible exact H) | (have H2_ := (Option.bind_some _ _).symm.trans H; rw [hy126]; with_reducible exact H2_) | (have H2_ := (Option.bind_some _ _).symm.trans H; with_reducible exact H2_) | with_reducible exact H | (rw [hy126]; exact H) | exact H
                  have Ny126 := Aside0.mk hy126
                  clear hy126
                  by_cases c9 : x4_1.length < 5864062014805
                  · rw [if_pos c9] at H
                    have LMc9 := Aside0.mk c9
                    clear c9
                    obtain ⟨y129, hy129⟩ : ∃ y_ : List (List Int), y_ = (x4_1 ++ [y126]) := ⟨_, rfl⟩
                    replace H : (spec_HollowsOf.l0 k1 a0 y129 (wrap64 (x5_1 - 1))) = some (r1, r2) := by first | (rw [hy129]; with_reducible exact H) | (have H2_ := (Option.bind_some _ _).symm.trans H; rw [hy129]; with_reducible exact H2_) | (have H2_ := (Option.bind_some _ _).symm.trans H; with_reducible exact H2_) | with_reducible exact H | (rw [hy129]; exact H) | exact H
                    have Ny129 := Aside0.mk hy129
                    clear hy129
                    have H' := Aside0.mk H
                    clear H
                    go_wp2_with (first | ((with_reducible refine gate_dst (N := 40) rfl ?_); refine Kd.R_lit (Kd.int .i64) _ 3 ?hg (N := 40) ?hd (xs := ([wrap64 ((wrap64 (Int.tdiv (wrap64 (Int.tdiv a0 4)) x5_1)) + x5_1), x5_1] : List Int)) (inner := [.int .i64 (wrap64 ((wrap64 (Int.tdiv (wrap64 (Int.tdiv a0 4)) x5_1)) + x5_1)), .int .i64 x5_1]) (ok := fun _ => True) (okp := fun _ => True) ?hr ?hp (fun _ hk => hk) trivial (Below.refl _ _) (Nat.le_refl _) (by simp) ?_; (case hd => rfl); (case hg => rfl); (case hr => first | (go_simp; done) | (go_simp; rfl)); (case hp => exact (Reps.one (show Kd.M (Kd.int .i64) _ _ _ (wrap64 ((wrap64 (Int.tdiv (wrap64 (Int.tdiv a0 4)) x5_1)) + x5_1)) [.int .i64 (wrap64 ((wrap64 (Int.tdiv (wrap64 (Int.tdiv a0 4)) x5_1)) + x5_1))] from rfl) (Reps.one (show Kd.M (Kd.int .i64) _ _ _ x5_1 [.int .i64 x5_1] from rfl) (Reps.none _ _)))); intro v127 w10 ho11 hb hg_ hnew_; clear hg_ hnew_; (first | rw [← Ny126.out] at ho11 | (simp only [Int.reduceToNat] at ho11; rw [← Ny126.out] at ho11)); have n0_ := Aside0.mk (Kd.S_elder' (by (with_reducible repeat (first | apply Kd.S_alloc | apply Kd.S_drewN | apply Kd.S_drew)); exact HO_4.out) (Kd.R_base ho11) hb); have n1_ := Aside0.mk (Kd.R_lower ho11 (below_size (by repeat (first | (with_reducible first | exact HB.out | apply below_alloc | apply pw_below_drewN | apply below_drew1) | exact HB.out)))); have n2_ := Aside0.mk (below_step (by repeat (first | (with_reducible first | exact HB.out | apply below_alloc | apply pw_below_drewN | apply below_drew1) | exact HB.out)) hb); clear HO_4; clear HB; have HO_4 := n0_; have HO128 := n1_; have HB := n2_; clear n0_ n1_ n2_; clear hb ho11; obtain ⟨Ao13, co13, eo13⟩ := Kd.R_slice HO128.out; subst eo13) | ((with_reducible refine gate_builtin (b := .append) (xs := #[.tmp 37, .tmp 41]) rfl ?_); at_builtin; refine Kd.S_append (Kd.slice 3 (Kd.int .i64)) (w0 := w) w.heap.size rfl (.tmp 37) (.tmp 41) 22 27 (.slice none 0 0) 24 rfl Try.underlying22 info27 rfl (by decide) (by omega) u4 x4_1 y126 [.slice Ao13 y126.length co13] (fun _ => True) (fun k_ => some k_ = (.slice Ao13 y126.length co13 : Value).ownBlock) rfl rfl ?aP (fun k_ hk_ => ((Kd.R_mono (ok' := fun k_ => ((fun _ => True)) k_ ∧ some k_ ≠ (u4 : Value).ownBlock) (Kd.R_apart' (HO128.out) (Kd.S_typed HO_4.out) (by decide)) (fun k_ hk => ⟨trivial, hk.2⟩))).1 k_ hk_.symm) ?aF ?aO ?aB ?aS ?aL ?_; (case aP => exact Kd.M_row (Kd.R_mono (Kd.R_tight rfl (Kd.R_mono (ok' := fun k_ => ((fun _ => True)) k_ ∧ some k_ ≠ (u4 : Value).ownBlock) (Kd.R_apart' (HO128.out) (Kd.S_typed HO_4.out) (by decide)) (fun k_ hk => ⟨trivial, hk.2⟩))) (fun _ h_ => h_))); (case aB => exact (by repeat (first | (with_reducible first | exact HB.out | apply below_alloc | apply pw_below_drewN | apply below_drew1) | exact HB.out))); (case aF => exact (fun _ _ => trivial)); (case aO => exact (by (with_reducible repeat (first | apply Kd.S_alloc | apply Kd.S_drewN | apply Kd.S_drew)); exact Kd.S_mono HO_4.out (fun k_ hk => ⟨trivial, fun e_ => hk.2 e_⟩))); (case aS => exact (below_size (by repeat (first | (with_reducible first | exact HB.out | apply below_alloc | apply pw_below_drewN | apply below_drew1) | exact HB.out)))); (case aL => have := LMc9.out; omega); intro v130 w12 ho hb hg hat; rw [← Ny129.out] at ho; have n0_ := Aside0.mk (hb); have n1_ := Aside0.mk (ho); clear HB; clear HO_4; clear HO128; have HB := n0_; have HO131 := n1_; clear n0_ n1_; clear ho hb hg hat))
                    go_roundg k1
                    case measure => have := HK1.out; omega
                    case rel => exact ⟨(y129), (wrap64 (x5_1 - 1)), (by first | rfl | (simp; done) | (simp [*]; done)), H', ⟨by have := HK1.out; omega⟩, ⟨by (with_reducible repeat (first | apply Kd.S_alloc | apply Kd.S_drewN | apply Kd.S_drew)); exact HO131.out⟩, ⟨by repeat (first | (with_reducible first | exact HB.out | apply below_alloc | apply pw_below_drewN | apply below_drew1) | exact HB.out)⟩⟩
                  · rw [if_neg c9] at H
                    exact absurd H (by simp)
                · rw [if_neg c8] at H
                  have c8b0 : decide ((wrap64 (2 * x5_1)) < (wrap64 ((wrap64 (Int.tdiv (wrap64 (Int.tdiv a0 4)) x5_1)) + x5_1))) = false := decide_eq_false c8
                  clear c8
                  have H' := Aside0.mk H
                  clear H
                  go_wp2
                  go_roundg k1
                  case measure => have := HK1.out; omega
                  case rel => exact ⟨(x4_1), (wrap64 (x5_1 - 1)), (by first | rfl | (simp; done) | (simp [*]; done)), H', ⟨by have := HK1.out; omega⟩, ⟨by (with_reducible repeat (first | apply Kd.S_alloc | apply Kd.S_drewN | apply Kd.S_drew)); exact HO_4.out⟩, ⟨by repeat (first | (with_reducible first | exact HB.out | apply below_alloc | apply pw_below_drewN | apply below_drew1) | exact HB.out)⟩⟩
              · rw [if_neg c7] at H
                have c7b0 : ((Int.tmod (wrap64 (Int.tdiv a0 4)) x5_1) == 0) = false := beq_eq_false_iff_ne.mpr c7
                have c7b1 : ((Int.tmod (wrap64 (Int.tdiv a0 4)) x5_1) != 0) = true := bne_iff_ne.mpr c7
                have H' := Aside0.mk H
                clear H
                go_wp2
                go_roundg k1
                case measure => have := HK1.out; omega
                case rel => exact ⟨(x4_1), (wrap64 (x5_1 - 1)), (by first | rfl | (simp; done) | (simp [*]; done)), H', ⟨by have := HK1.out; omega⟩, ⟨by (with_reducible repeat (first | apply Kd.S_alloc | apply Kd.S_drewN | apply Kd.S_drew)); exact HO_4.out⟩, ⟨by repeat (first | (with_reducible first | exact HB.out | apply below_alloc | apply pw_below_drewN | apply below_drew1) | exact HB.out)⟩⟩
          · rw [if_neg c5] at H
            have c5b0 : decide (0 < x5_1) = false := decide_eq_false c5
            clear c5
            simp only [Option.some.injEq, Prod.mk.injEq] at H
            obtain ⟨rfl, rfl⟩ := H
            go_wp2
            go_ret2
            exact ⟨_, by first | rfl | (simp [errW_none, errW_some] <;> rfl) | (simp [*, errW_none, errW_some] <;> rfl), by (with_reducible repeat (first | apply Kd.S_alloc | apply Kd.S_drewN | apply Kd.S_drew)); exact HO_4.out, by repeat (first | (with_reducible first | exact HB.out | apply below_alloc | apply pw_below_drewN | apply below_drew1) | exact HB.out)⟩
    · rw [if_neg c4] at H
      have c4b0 : ((Int.tmod a0 4) == 0) = false := beq_eq_false_iff_ne.mpr c4
      have c4b1 : ((Int.tmod a0 4) != 0) = true := bne_iff_ne.mpr c4
      simp only [Option.some.injEq, Prod.mk.injEq] at H
      obtain ⟨rfl, rfl⟩ := H
      go_enter Try.func7, Try.ntmps7
      go_wp2_with (first | ((with_reducible refine gate_callee (f := 32) rfl ?_); refine goesL_ (some 8) rfl rfl Try.func32 (by kernel_rfl) rfl #[.int .i64 a0] rfl (by (try simp only [List.map_toArray, List.map_cons, List.map_nil]); first | done | rfl | (simp only [List.length_drop, List.length_take]; rfl)) ?_; (with_reducible refine (spec_foSoldiers.calls a0 true _ A2.out).mono ?_); rintro e w' ⟨rfl, ⟨nd, rfl⟩⟩; refine ⟨_, rfl, ?_⟩))
      go_ret2
      exact ⟨_, by first | rfl | (simp [errW_none, errW_some] <;> rfl) | (simp [*, errW_none, errW_some] <;> rfl), by first | exact Kd.S_nil _ _ _ _ _ | exact Kd.N_nil _ _ _ _ _ | exact Kd.V_nil _ _ _ _ _ | exact Kd.Q_nil _ _ _ _ _ | exact Kd.R_nil _ _ _ _ _, by repeat (first | (with_reducible first | exact HB.out | apply below_alloc | apply pw_below_drewN | apply below_drew1) | exact HB.out)⟩
  · replace c3 := Bool.eq_false_iff.mpr c3
    subst c3
    have H1 : (some (([] : List (List Int)), false)) = some (r1, r2) := by rw [if_neg (show ¬ (false = true) by decide)] at H; exact H
    clear H
    have H := H1
    clear H1
    simp only [Option.some.injEq, Prod.mk.injEq] at H
    obtain ⟨rfl, rfl⟩ := H
    go_enter Try.func7, Try.ntmps7
    go_wp2_with (first | ((with_reducible refine gate_callee (f := 32) rfl ?_); refine goesL_ (some 8) rfl rfl Try.func32 (by kernel_rfl) rfl #[.int .i64 a0] rfl (by (try simp only [List.map_toArray, List.map_cons, List.map_nil]); first | done | rfl | (simp only [List.length_drop, List.length_take]; rfl)) ?_; (with_reducible refine (spec_foSoldiers.calls a0 false _ A2.out).mono ?_); rintro e w' ⟨rfl, ⟨nd, rfl⟩⟩; refine ⟨_, rfl, ?_⟩))
    go_ret2
    exact ⟨_, by first | rfl | (simp [errW_none, errW_some] <;> rfl) | (simp [*, errW_none, errW_some] <;> rfl), by first | exact Kd.S_nil _ _ _ _ _ | exact Kd.N_nil _ _ _ _ _ | exact Kd.V_nil _ _ _ _ _ | exact Kd.Q_nil _ _ _ _ _ | exact Kd.R_nil _ _ _ _ _, by repeat (first | (with_reducible first | exact HB.out | apply below_alloc | apply pw_below_drewN | apply below_drew1) | exact HB.out)⟩

/-! ### impl_rootOf: function 36 -/
def impl_rootOf.l0 : Nat → Int → Int → Option (Int)
  | 0, _, _ => none
  | k + 1, x0, x3 => if (wrap64 ((wrap64 (x3 + 1)) * (wrap64 (x3 + 1)))) ≤ x0 then (impl_rootOf.l0 k x0 (wrap64 (x3 + 1))) else (some x3)
def impl_rootOf.f (k : Nat) (a0 : Int) : Option (Int) := impl_rootOf.l0 k a0 0
theorem impl_rootOf.mono_l : ∀ k, (∀ y0 y1, LeO (impl_rootOf.l0 k y0 y1) (impl_rootOf.l0 (k + 1) y0 y1))
  | 0 => fun _ _ r h => by simp [impl_rootOf.l0] at h
  | k + 1 => by
    have ih0 := impl_rootOf.mono_l k
    · intro y0 y1
      unfold impl_rootOf.l0
      repeat' first
      | (with_reducible exact ih0 _ _)
      | (with_reducible exact LeO.refl _)
      | (with_reducible exact LeO.none _)
      | (with_reducible refine LeO.ite ?_ ?_)
      | (with_reducible refine LeO.bind ?_ (fun _ => ?_))
      | exact ih0 _ _
      | exact LeO.none _
      | refine LeO.ite ?_ ?_
      | refine LeO.bind ?_ (fun _ => ?_)
theorem impl_rootOf.mono : ∀ a0 k, LeO (impl_rootOf.f k a0) (impl_rootOf.f (k + 1) a0) := by
  intro a0 k
  have ih0 := impl_rootOf.mono_l k
  unfold impl_rootOf.f
  repeat' first
      | (with_reducible exact ih0 _ _)
      | (with_reducible exact LeO.refl _)
      | (with_reducible exact LeO.none _)
      | (with_reducible refine LeO.ite ?_ ?_)
      | (with_reducible refine LeO.bind ?_ (fun _ => ?_))
      | exact ih0 _ _
      | exact LeO.none _
      | refine LeO.ite ?_ ?_
      | refine LeO.bind ?_ (fun _ => ?_)
set_option maxHeartbeats 8000000 in
set_option maxRecDepth 100000 in
theorem impl_rootOf.calls (k : Nat) (a0 : Int) (r : Int) (w : World) (h : impl_rootOf.f k a0 = some r) :
    Calls Try.prog 36 #[.int .i64 a0] w fun e w' => e = .returned (.int .i64 r) ∧ Drawn0 w w' := by
  have H : (impl_rootOf.l0 k a0 0) = some r := h
  clear h
  have H' := Aside0.mk H
  clear H
  go_enter Try.func36, Try.ntmps36
  go_wp2
  go_loopg [3] k (fun kq v3 w' => ∃ (x3_1 : Int), v3 = .int .i64 x3_1 ∧ Aside0 (impl_rootOf.l0 kq a0 x3_1 = some r) ∧ Aside0 (kq ≤ k) ∧ Drawn0 w w')
  case atStart => exact ⟨(0), (by first | rfl | (simp; done) | (simp [*]; done)), H', ⟨Nat.le_refl _⟩, by repeat (first | exact Drawn0.refl _ | apply Drawn0.step)⟩
  case round =>
    clear H'
    obtain ⟨x3_1, rfl, HA, HK1, ⟨m1, rfl⟩⟩ := hrel
    cases gk with
    | zero => exact absurd HA.out (by simp [impl_rootOf.l0])
    | succ k1 =>
      have H := HA.out
      clear HA
      simp only [impl_rootOf.l0] at H
      by_cases c2 : (wrap64 ((wrap64 (x3_1 + 1)) * (wrap64 (x3_1 + 1)))) ≤ a0
      · rw [if_pos c2] at H
        have c2b0 : decide ((wrap64 ((wrap64 (x3_1 + 1)) * (wrap64 (x3_1 + 1)))) ≤ a0) = true := decide_eq_true c2
        clear c2
        have H' := Aside0.mk H
        clear H
        go_wp2
        go_roundg k1
        case measure => have := HK1.out; omega
        case rel => exact ⟨(wrap64 (x3_1 + 1)), (by first | rfl | (simp; done) | (simp [*]; done)), H', ⟨by have := HK1.out; omega⟩, by repeat (first | exact Drawn0.refl _ | apply Drawn0.step)⟩
      · rw [if_neg c2] at H
        have c2b0 : decide ((wrap64 ((wrap64 (x3_1 + 1)) * (wrap64 (x3_1 + 1)))) ≤ a0) = false := decide_eq_false c2
        clear c2
        obtain rfl := Option.some.inj H
        go_wp2
        go_ret
        exact ⟨by first | rfl | (simp; done) | (simp [*]; done), by repeat (first | exact Drawn0.refl _ | apply Drawn0.step)⟩

/-! ### impl_SquareOf: function 8 -/
def impl_SquareOf.f (k : Nat) (a0 : Int) : Option (Int × Int × Bool) := (impl_isSoldiers.f a0).bind fun t132 => (if t132 = true then ((impl_rootOf.f k a0).bind fun t133 => (some (t133, wrap64 (a0 - (wrap64 (t133 * t133))), true))) else (some (0, 0, false)))
theorem impl_SquareOf.mono : ∀ a0 k, LeO (impl_SquareOf.f k a0) (impl_SquareOf.f (k + 1) a0) := by
  intro a0 k
  unfold impl_SquareOf.f
  repeat' first
      | (with_reducible exact impl_rootOf.mono _ _)
      | (with_reducible exact LeO.refl _)
      | (with_reducible exact LeO.none _)
      | (with_reducible refine LeO.ite ?_ ?_)
      | (with_reducible refine LeO.bind ?_ (fun _ => ?_))
      | exact impl_rootOf.mono _ _
      | exact LeO.none _
      | refine LeO.ite ?_ ?_
      | refine LeO.bind ?_ (fun _ => ?_)
set_option maxHeartbeats 8000000 in
set_option maxRecDepth 100000 in
theorem impl_SquareOf.calls (k : Nat) (a0 : Int) (r1 : Int) (r2 : Int) (r3 : Bool) (w : World) (h : impl_SquareOf.f k a0 = some (r1, r2, r3)) :
    Calls Try.prog 8 #[.int .i64 a0] w fun e w' => e = .returned (.tuple #[.int .i64 r1, .int .i64 r2, .bool r3]) ∧ Drawn0 w w' := by
  have H : ((impl_isSoldiers.f a0).bind fun t132 => (if t132 = true then ((impl_rootOf.f k a0).bind fun t133 => (some (t133, wrap64 (a0 - (wrap64 (t133 * t133))), true))) else (some (0, 0, false)))) = some (r1, r2, r3) := h
  clear h
  replace H := Option.bind_eq_some_iff.mp H
  obtain ⟨t132, A20, H⟩ := H
  replace H : (if t132 = true then ((impl_rootOf.f k a0).bind fun t133 => (some (t133, wrap64 (a0 - (wrap64 (t133 * t133))), true))) else (some (0, 0, false))) = some (r1, r2, r3) := H
  have A2 := Aside0.mk A20
  clear A20
  by_cases c3 : t132 = true
  · subst c3
    have H1 : ((impl_rootOf.f k a0).bind fun t133 => (some (t133, wrap64 (a0 - (wrap64 (t133 * t133))), true))) = some (r1, r2, r3) := by rw [if_pos rfl] at H; exact H
    clear H
    have H := H1
    clear H1
    replace H := Option.bind_eq_some_iff.mp H
    obtain ⟨t133, A40, H⟩ := H
    replace H : (some (t133, wrap64 (a0 - (wrap64 (t133 * t133))), true)) = some (r1, r2, r3) := H
    have A4 := Aside0.mk A40
    clear A40
    simp only [Option.some.injEq, Prod.mk.injEq] at H
    obtain ⟨rfl, rfl, rfl⟩ := H
    go_enter Try.func8, Try.ntmps8
    go_wp2_with (first | ((with_reducible refine gate_callee (f := 31) rfl ?_); refine goesL_ (some 7) rfl rfl Try.func31 (by kernel_rfl) rfl #[.int .i64 a0] rfl (by (try simp only [List.map_toArray, List.map_cons, List.map_nil]); first | done | rfl | (simp only [List.length_drop, List.length_take]; rfl)) ?_; (with_reducible refine (impl_isSoldiers.calls a0 true _ A2.out).mono ?_); rintro e w' ⟨rfl, ⟨nd, rfl⟩⟩; refine ⟨_, rfl, ?_⟩) | ((with_reducible refine gate_callee (f := 36) rfl ?_); refine goesL_ (some 10) rfl rfl Try.func36 (by kernel_rfl) rfl #[.int .i64 a0] rfl (by (try simp only [List.map_toArray, List.map_cons, List.map_nil]); first | done | rfl | (simp only [List.length_drop, List.length_take]; rfl)) ?_; (with_reducible refine (impl_rootOf.calls k a0 t133 _ A4.out).mono ?_); rintro e w' ⟨rfl, ⟨nd, rfl⟩⟩; refine ⟨_, rfl, ?_⟩))
    go_ret3
    exact ⟨by first | rfl | (simp; done) | (simp [*]; done), by repeat (first | exact Drawn0.refl _ | apply Drawn0.step)⟩
  · replace c3 := Bool.eq_false_iff.mpr c3
    subst c3
    have H1 : (some (0, 0, false)) = some (r1, r2, r3) := by rw [if_neg (show ¬ (false = true) by decide)] at H; exact H
    clear H
    have H := H1
    clear H1
    simp only [Option.some.injEq, Prod.mk.injEq] at H
    obtain ⟨rfl, rfl, rfl⟩ := H
    go_enter Try.func8, Try.ntmps8
    go_wp2_with (first | ((with_reducible refine gate_callee (f := 31) rfl ?_); refine goesL_ (some 7) rfl rfl Try.func31 (by kernel_rfl) rfl #[.int .i64 a0] rfl (by (try simp only [List.map_toArray, List.map_cons, List.map_nil]); first | done | rfl | (simp only [List.length_drop, List.length_take]; rfl)) ?_; (with_reducible refine (impl_isSoldiers.calls a0 false _ A2.out).mono ?_); rintro e w' ⟨rfl, ⟨nd, rfl⟩⟩; refine ⟨_, rfl, ?_⟩))
    go_ret3
    exact ⟨by first | rfl | (simp; done) | (simp [*]; done), by repeat (first | exact Drawn0.refl _ | apply Drawn0.step)⟩

/-! ### spec_foRoot: function 37 -/
def spec_foRoot.l0 : Nat → Int → Int → Option (Int)
  | 0, _, _ => none
  | k + 1, x0, x3 => if (wrap64 ((wrap64 (x3 + 1)) * (wrap64 (x3 + 1)))) ≤ x0 then (spec_foRoot.l0 k x0 (wrap64 (x3 + 1))) else (some x3)
def spec_foRoot.f (k : Nat) (a0 : Int) : Option (Int) := spec_foRoot.l0 k a0 0
theorem spec_foRoot.mono_l : ∀ k, (∀ y0 y1, LeO (spec_foRoot.l0 k y0 y1) (spec_foRoot.l0 (k + 1) y0 y1))
  | 0 => fun _ _ r h => by simp [spec_foRoot.l0] at h
  | k + 1 => by
    have ih0 := spec_foRoot.mono_l k
    · intro y0 y1
      unfold spec_foRoot.l0
      repeat' first
      | (with_reducible exact ih0 _ _)
      | (with_reducible exact LeO.refl _)
      | (with_reducible exact LeO.none _)
      | (with_reducible refine LeO.ite ?_ ?_)
      | (with_reducible refine LeO.bind ?_ (fun _ => ?_))
      | exact ih0 _ _
      | exact LeO.none _
      | refine LeO.ite ?_ ?_
      | refine LeO.bind ?_ (fun _ => ?_)
theorem spec_foRoot.mono : ∀ a0 k, LeO (spec_foRoot.f k a0) (spec_foRoot.f (k + 1) a0) := by
  intro a0 k
  have ih0 := spec_foRoot.mono_l k
  unfold spec_foRoot.f
  repeat' first
      | (with_reducible exact ih0 _ _)
      | (with_reducible exact LeO.refl _)
      | (with_reducible exact LeO.none _)
      | (with_reducible refine LeO.ite ?_ ?_)
      | (with_reducible refine LeO.bind ?_ (fun _ => ?_))
      | exact ih0 _ _
      | exact LeO.none _
      | refine LeO.ite ?_ ?_
      | refine LeO.bind ?_ (fun _ => ?_)
set_option maxHeartbeats 8000000 in
set_option maxRecDepth 100000 in
theorem spec_foRoot.calls (k : Nat) (a0 : Int) (r : Int) (w : World) (h : spec_foRoot.f k a0 = some r) :
    Calls Try.prog 37 #[.int .i64 a0] w fun e w' => e = .returned (.int .i64 r) ∧ Drawn0 w w' := by
  have H : (spec_foRoot.l0 k a0 0) = some r := h
  clear h
  have H' := Aside0.mk H
  clear H
  go_enter Try.func37, Try.ntmps37
  go_wp2
  go_loopg [3] k (fun kq v3 w' => ∃ (x3_1 : Int), v3 = .int .i64 x3_1 ∧ Aside0 (spec_foRoot.l0 kq a0 x3_1 = some r) ∧ Aside0 (kq ≤ k) ∧ Drawn0 w w')
  case atStart => exact ⟨(0), (by first | rfl | (simp; done) | (simp [*]; done)), H', ⟨Nat.le_refl _⟩, by repeat (first | exact Drawn0.refl _ | apply Drawn0.step)⟩
  case round =>
    clear H'
    obtain ⟨x3_1, rfl, HA, HK1, ⟨m1, rfl⟩⟩ := hrel
    cases gk with
    | zero => exact absurd HA.out (by simp [spec_foRoot.l0])
    | succ k1 =>
      have H := HA.out
      clear HA
      simp only [spec_foRoot.l0] at H
      by_cases c2 : (wrap64 ((wrap64 (x3_1 + 1)) * (wrap64 (x3_1 + 1)))) ≤ a0
      · rw [if_pos c2] at H
        have c2b0 : decide ((wrap64 ((wrap64 (x3_1 + 1)) * (wrap64 (x3_1 + 1)))) ≤ a0) = true := decide_eq_true c2
        clear c2
        have H' := Aside0.mk H
        clear H
        go_wp2
        go_roundg k1
        case measure => have := HK1.out; omega
        case rel => exact ⟨(wrap64 (x3_1 + 1)), (by first | rfl | (simp; done) | (simp [*]; done)), H', ⟨by have := HK1.out; omega⟩, by repeat (first | exact Drawn0.refl _ | apply Drawn0.step)⟩
      · rw [if_neg c2] at H
        have c2b0 : decide ((wrap64 ((wrap64 (x3_1 + 1)) * (wrap64 (x3_1 + 1)))) ≤ a0) = false := decide_eq_false c2
        clear c2
        obtain rfl := Option.some.inj H
        go_wp2
        go_ret
        exact ⟨by first | rfl | (simp; done) | (simp [*]; done), by repeat (first | exact Drawn0.refl _ | apply Drawn0.step)⟩

/-! ### spec_SquareOf: function 9 -/
def spec_SquareOf.f (k : Nat) (a0 : Int) : Option (Int × Int × Bool) := (spec_foSoldiers.f a0).bind fun t134 => (if t134 = true then ((spec_foRoot.f k a0).bind fun t135 => (some (t135, wrap64 (a0 - (wrap64 (t135 * t135))), true))) else (some (0, 0, false)))
theorem spec_SquareOf.mono : ∀ a0 k, LeO (spec_SquareOf.f k a0) (spec_SquareOf.f (k + 1) a0) := by
  intro a0 k
  unfold spec_SquareOf.f
  repeat' first
      | (with_reducible exact spec_foRoot.mono _ _)
      | (with_reducible exact LeO.refl _)
      | (with_reducible exact LeO.none _)
      | (with_reducible refine LeO.ite ?_ ?_)
      | (with_reducible refine LeO.bind ?_ (fun _ => ?_))
      | exact spec_foRoot.mono _ _
      | exact LeO.none _
      | refine LeO.ite ?_ ?_
      | refine LeO.bind ?_ (fun _ => ?_)
set_option maxHeartbeats 8000000 in
set_option maxRecDepth 100000 in
theorem spec_SquareOf.calls (k : Nat) (a0 : Int) (r1 : Int) (r2 : Int) (r3 : Bool) (w : World) (h : spec_SquareOf.f k a0 = some (r1, r2, r3)) :
    Calls Try.prog 9 #[.int .i64 a0] w fun e w' => e = .returned (.tuple #[.int .i64 r1, .int .i64 r2, .bool r3]) ∧ Drawn0 w w' := by
  have H : ((spec_foSoldiers.f a0).bind fun t134 => (if t134 = true then ((spec_foRoot.f k a0).bind fun t135 => (some (t135, wrap64 (a0 - (wrap64 (t135 * t135))), true))) else (some (0, 0, false)))) = some (r1, r2, r3) := h
  clear h
  replace H := Option.bind_eq_some_iff.mp H
  obtain ⟨t134, A20, H⟩ := H
  replace H : (if t134 = true then ((spec_foRoot.f k a0).bind fun t135 => (some (t135, wrap64 (a0 - (wrap64 (t135 * t135))), true))) else (some (0, 0, false))) = some (r1, r2, r3) := H
  have A2 := Aside0.mk A20
  clear A20
  by_cases c3 : t134 = true
  · subst c3
    have H1 : ((spec_foRoot.f k a0).bind fun t135 => (some (t135, wrap64 (a0 - (wrap64 (t135 * t135))), true))) = some (r1, r2, r3) := by rw [if_pos rfl] at H; exact H
    clear H
    have H := H1
    clear H1
    replace H := Option.bind_eq_some_iff.mp H
    obtain ⟨t135, A40, H⟩ := H
    replace H : (some (t135, wrap64 (a0 - (wrap64 (t135 * t135))), true)) = some (r1, r2, r3) := H
    have A4 := Aside0.mk A40
    clear A40
    simp only [Option.some.injEq, Prod.mk.injEq] at H
    obtain ⟨rfl, rfl, rfl⟩ := H
    go_enter Try.func9, Try.ntmps9
    go_wp2_with (first | ((with_reducible refine gate_callee (f := 32) rfl ?_); refine goesL_ (some 7) rfl rfl Try.func32 (by kernel_rfl) rfl #[.int .i64 a0] rfl (by (try simp only [List.map_toArray, List.map_cons, List.map_nil]); first | done | rfl | (simp only [List.length_drop, List.length_take]; rfl)) ?_; (with_reducible refine (spec_foSoldiers.calls a0 true _ A2.out).mono ?_); rintro e w' ⟨rfl, ⟨nd, rfl⟩⟩; refine ⟨_, rfl, ?_⟩) | ((with_reducible refine gate_callee (f := 37) rfl ?_); refine goesL_ (some 10) rfl rfl Try.func37 (by kernel_rfl) rfl #[.int .i64 a0] rfl (by (try simp only [List.map_toArray, List.map_cons, List.map_nil]); first | done | rfl | (simp only [List.length_drop, List.length_take]; rfl)) ?_; (with_reducible refine (spec_foRoot.calls k a0 t135 _ A4.out).mono ?_); rintro e w' ⟨rfl, ⟨nd, rfl⟩⟩; refine ⟨_, rfl, ?_⟩))
    go_ret3
    exact ⟨by first | rfl | (simp; done) | (simp [*]; done), by repeat (first | exact Drawn0.refl _ | apply Drawn0.step)⟩
  · replace c3 := Bool.eq_false_iff.mpr c3
    subst c3
    have H1 : (some (0, 0, false)) = some (r1, r2, r3) := by rw [if_neg (show ¬ (false = true) by decide)] at H; exact H
    clear H
    have H := H1
    clear H1
    simp only [Option.some.injEq, Prod.mk.injEq] at H
    obtain ⟨rfl, rfl, rfl⟩ := H
    go_enter Try.func9, Try.ntmps9
    go_wp2_with (first | ((with_reducible refine gate_callee (f := 32) rfl ?_); refine goesL_ (some 7) rfl rfl Try.func32 (by kernel_rfl) rfl #[.int .i64 a0] rfl (by (try simp only [List.map_toArray, List.map_cons, List.map_nil]); first | done | rfl | (simp only [List.length_drop, List.length_take]; rfl)) ?_; (with_reducible refine (spec_foSoldiers.calls a0 false _ A2.out).mono ?_); rintro e w' ⟨rfl, ⟨nd, rfl⟩⟩; refine ⟨_, rfl, ?_⟩))
    go_ret3
    exact ⟨by first | rfl | (simp; done) | (simp [*]; done), by repeat (first | exact Drawn0.refl _ | apply Drawn0.step)⟩

/-! ### impl_triangle: function 38 -/
def impl_triangle.f (a0 : Int) : Option (Int) := some (wrap64 (Int.tdiv (wrap64 (a0 * (wrap64 (a0 + 1)))) 2))
set_option maxHeartbeats 8000000 in
set_option maxRecDepth 100000 in
theorem impl_triangle.calls (a0 : Int) (r : Int) (w : World) (h : impl_triangle.f a0 = some r) :
    Calls Try.prog 38 #[.int .i64 a0] w fun e w' => e = .returned (.int .i64 r) ∧ Drawn0 w w' := by
  have H : (some (wrap64 (Int.tdiv (wrap64 (a0 * (wrap64 (a0 + 1)))) 2))) = some r := h
  clear h
  obtain rfl := Option.some.inj H
  go_enter Try.func38, Try.ntmps38
  go_wp2
  go_ret
  exact ⟨by first | rfl | (simp; done) | (simp [*]; done), by repeat (first | exact Drawn0.refl _ | apply Drawn0.step)⟩

end Go.Proofs.YtgdmbhldabeelaaR.PFnFormsStandOfAll
