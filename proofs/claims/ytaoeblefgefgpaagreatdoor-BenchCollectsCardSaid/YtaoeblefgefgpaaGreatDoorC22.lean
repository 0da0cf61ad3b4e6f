/- A part of the proof of a statement of this seat: the machine on which the program is read, and what it computes; for every input. -/
import Derived.Test.YtaoeblefgefgpaaGreatDoorC21
import Derived.Test.YtaoeblefgefgpaaGreatDoorC12
import Derived.Lib.AppendIntMem
set_option linter.all false
set_option linter.all false
namespace Go.Am
open Go Go.Proofs Go.RowKit Go.Sort
set_option maxRecDepth 100000

/-! # Shots put in order -/
@[instance_reducible] noncomputable def statC : Stat := { ok := fun m c => ∃ n, n ≤ m ∧ okC W0 n c = true ∧ noRF c = true, spec := fun t => Nat.beq t 354, count := true, w := W0 }
theorem cx_c : @CxOk statC U0 Tryz.prog :=
  have h := mk_cx (fun _ => none) (fun f => pures.contains f) (fun _ => none)
  @CxOk.mk statC U0 Tryz.prog h.und h.inf h.fn h.eqOk h.spec h.spec8
theorem full_c : @Full statC U0 Tryz.prog :=
  have h := mk_full (fun _ => none) (fun f => pures.contains f) (fun _ => none) (fun _ _ h => by cases h) (fun _ _ h => by cases h)
  @Full.mk statC U0 Tryz.prog cx_c h.stat h.le h.fok h.nm (fun _ _ h => by cases h) h.mixed h.gb
instance : Inhabited Shot := ⟨⟨[], 0, 0, 0, 0⟩⟩
def Shot.vals (x : Shot) : List Value := [.string ⟨x.i.toArray⟩, .int .i64 x.n, .int .i64 x.t, .int .i64 x.f, .int .i64 x.o]
theorem vals_rel {σ : Sg} (x : Shot) : vrels σ x.cells x.vals := by
  unfold Shot.cells Shot.vals
  simp only [vrels, vrel]
  exact ⟨_, _, rfl, ⟨_, rfl, by simp⟩, _, _, rfl, rfl, _, _, rfl, rfl, _, _, rfl, rfl, _, _, rfl, rfl, rfl⟩
theorem vals_of {σ : Sg} {x : Shot} {us : List Value} (h : vrels σ x.cells us) : us = x.vals := by
  unfold Shot.cells at h
  simp only [vrels, vrel] at h
  obtain ⟨_, _, rfl, ⟨bs, rfl, hb⟩, _, _, rfl, rfl, _, _, rfl, rfl, _, _, rfl, rfl, _, _, rfl, rfl, rfl⟩ := h
  unfold Shot.vals
  rw [← hb]
theorem vals_one (x : Shot) : ∀ v ∈ x.vals, v.oneCell' = true := by
  intro v hv
  simp only [Shot.vals, List.mem_cons, List.not_mem_nil, or_false] at hv
  rcases hv with rfl | rfl | rfl | rfl | rfl <;> rfl
theorem cmp_run {c : FuncId} {cf : Shot → Shot → Int} (hc : cmpOf c = some cf) (x y : Shot) (s : St) : U0.ext c = none ∧ ∃ n, run U0 n c [x.av, y.av] s = some (.int .i64 (cf x y), s) := by
  have key : ∀ f (cf : Shot → Shot → Int), calV O.U f [x.av, y.av] = some (.int .i64 (cf x y)) → ∃ n, run U0 n f [x.av, y.av] s = some (.int .i64 (cf x y), s) := fun f cf h => by
    have h := calV_eq h s
    unfold cal at h
    exact callL_run h
  unfold cmpOf at hc
  split at hc
  · cases hc; exact ⟨rfl, key _ _ (O.c39 x y)⟩
  · cases hc; exact ⟨rfl, key _ _ (O.c93 x y)⟩
  · cases hc
theorem cmp_enters {c : FuncId} {cf : Shot → Shot → Int} (hc : cmpOf c = some cf) (args : Array Value) (w : World) : (callFunc c args).run Tryz.prog w = .ok (.enter c args) w := by
  unfold cmpOf at hc
  split at hc
  · exact enters_by Tryz.func39 (by kernel_rfl) rfl args w
  · exact enters_by Tryz.func93 (by kernel_rfl) rfl args w
  · cases hc
/-- what a call leaves, where nothing of the caller's may be written -/
theorem grown {w w' : World} (h1 : w.heap.size ≤ w'.heap.size) (h2 : ∀ c, c < w.heap.size → w'.heap[c]? = w.heap[c]?) (h3 : w'.os = w.os) (h4 : w'.tape = w.tape) (h5 : w'.output = w.output) (h6 : w.drawn ≤ w'.drawn) : ∃ q os', w' = grow (w.drewN q) os' := by
  refine ⟨w'.drawn - w.drawn, w'.heap.extract w.heap.size w'.heap.size, ?_⟩
  obtain ⟨hp, tp, dr, os, ou⟩ := w'
  simp only at h1 h2 h3 h4 h5 h6
  subst h3; subst h4; subst h5
  have e1 : w.drawn + (dr - w.drawn) = dr := by omega
  have e2 : w.heap ++ hp.extract w.heap.size hp.size = hp := by
    apply Array.ext_getElem?
    intro i
    by_cases hi : i < w.heap.size
    · rw [Array.getElem?_append_left hi, h2 i hi]
    · rw [Array.getElem?_append_right (by omega), Array.getElem?_extract]
      by_cases hj : i < hp.size
      · rw [if_pos (by omega)]; congr 1; omega
      · rw [if_neg (by omega), Array.getElem?_eq_none (by omega)]
  simp only [grow, World.drewN, e1, e2]
theorem cmp_lays {gb : Nat → Option Blk} {ps : FuncId → Bool} {ext : FuncId → Option (List AV → St → Option (AV × St))} {σ : Sg} {s : St} {w : World} (H : HR σ s w) (G : GlobOk (mkU gb ps ext) σ) {c : FuncId} {cf : Shot → Shot → Int} (hc : cmpOf c = some cf) (blk off size : Nat) : CmpLays Tryz.prog c #[] Shot.vals 5 cf blk off size w := by
  intro m os dk hdk x y
  generalize hw1 : sortWorldK Shot.vals 5 w blk off m dk os = w1
  have hsz : w.heap.size ≤ w1.heap.size := by
    rw [← hw1]; simp [sortWorldK, grow, putRowK]
  obtain ⟨hext, n, hrun⟩ := cmp_run hc x y (ownSt U0)
  let σ0 : Sg := { m := σ.m, fz := fun _ => none }
  have G0 : @GlobOk statC U0 σ0 := fun g hg => by
    obtain ⟨k, h1, _⟩ := G g hg
    exact ⟨k, h1, fun b hb => by cases hb⟩
  obtain ⟨a1, a2, a3, a4⟩ := @own_hr statC U0 σ0 w1 G0 (fun i p h => Nat.lt_of_lt_of_le (H.lt i p h) hsz) (fun _ _ h => by cases h) (fun _ => none) (fun _ _ h => by cases h) (fun _ _ h => by cases h) (fun _ _ h => by cases h)
  have hv : vrels (σ0.low U0.glob fun _ => none) [x.av, y.av] (#[Value.agg x.vals.toArray, Value.agg y.vals.toArray] ++ (#[] : Array Value)).toList := by
    simp only [Array.append_empty, vrels, Shot.av, vrel]
    exact ⟨_, _, rfl, ⟨_, rfl, vals_rel x⟩, _, _, rfl, ⟨_, rfl, vals_rel y⟩, rfl⟩
  refine (@run_ok statC U0 Tryz.prog full_c n c hext _ _ _ _ hrun _ w1 _ a1 a2 a3 hv).mono ?_
  rintro e w' ⟨u, σ', rfl, hu, g⟩
  have hu : u = .int .i64 (cf x y) := by simpa only [vrel] using hu
  subst hu
  letI : Stat := statC
  refine ⟨rfl, grown g.ext.size (fun b hb => g.ext.keep b hb (a4 b)) g.ext.os g.ext.tape g.ext.output (g.ext.drawn rfl)⟩

/-! ### The contract -/
theorem flat_at {A B : Type} (f : A → List B) (k : Nat) (hk : ∀ x, (f x).length = k) : ∀ (l : List A) (t : Nat), t < l.length * k → (l.flatMap f)[t]? = (l[t / k]?).bind fun x => (f x)[t % k]?
  | [], t, h => by simp at h
  | x :: l, t, h => by
    have k0 : 0 < k := by
      rcases Nat.eq_zero_or_pos k with h0 | h0
      · rw [h0, Nat.mul_zero] at h; omega
      · exact h0
    rw [List.flatMap_cons]
    by_cases ht : t < k
    · rw [List.getElem?_append_left (by rw [hk]; exact ht), Nat.div_eq_of_lt ht, Nat.mod_eq_of_lt ht]; rfl
    · rw [List.length_cons, Nat.add_mul] at h
      rw [List.getElem?_append_right (by rw [hk]; omega), hk, flat_at f k hk l (t - k) (by omega)]
      have e1 : t / k = (t - k) / k + 1 := by rw [Nat.div_eq_sub_div k0 (by omega)]
      have e2 : t % k = (t - k) % k := Nat.mod_eq_sub_mod (by omega)
      rw [e1, e2, List.getElem?_cons_succ]
theorem flat_sz {A B : Type} (f : A → List B) (k : Nat) (hk : ∀ x, (f x).length = k) : ∀ l : List A, (l.flatMap f).length = l.length * k
  | [] => by simp
  | x :: l => by rw [List.flatMap_cons, List.length_append, hk, flat_sz f k hk l, List.length_cons, Nat.add_mul]; omega
theorem vals_len (x : Shot) : x.vals.length = 5 := rfl
theorem flatK_list (d : Array Shot) : (flatK Shot.vals 5 d).toList = d.toList.flatMap Shot.vals := by
  apply List.ext_getElem?
  intro t
  have hl : (d.toList.flatMap Shot.vals).length = d.size * 5 := flat_sz Shot.vals 5 vals_len d.toList
  by_cases h : t < d.size * 5
  · have h5 : t / 5 < d.size := by omega
    rw [flat_at Shot.vals 5 vals_len _ _ (by simpa using h), Array.getElem?_toList, Array.getElem?_toList]
    have e := get_flatK Shot.vals 5 d t h
    rw [Array.getElem?_eq_getElem (by rw [size_flatK]; exact h), Array.getElem?_eq_getElem h5]
    rw [getElem!_pos (flatK Shot.vals 5 d) t (by rw [size_flatK]; exact h), getElem!_pos d _ h5] at e
    have h6 : t % 5 < (d[t / 5]).vals.length := by rw [vals_len]; omega
    rw [getElem!_pos (d[t / 5]).vals (t % 5) h6] at e
    rw [e, Option.bind_some, List.getElem?_eq_getElem h6]
  · rw [List.getElem?_eq_none (by have := size_flatK Shot.vals 5 d; simp only [Array.length_toList]; omega), List.getElem?_eq_none (by omega)]
theorem shotC_some {c : List AV} {x : Shot} (h : shotC c = some x) : c = x.cells := by
  unfold shotC at h
  split at h
  · cases h; rfl
  · cases h
theorem shotsC_some : ∀ {n : Nat} {r : List AV} {l : List Shot}, shotsC n r = some l → r = shotsCells l ∧ l.length = n
  | 0, [], l, h => by cases h; exact ⟨rfl, rfl⟩
  | 0, _ :: _, l, h => by cases h
  | n + 1, [], l, h => by cases h
  | n + 1, [_], l, h => by cases h
  | n + 1, [_, _], l, h => by cases h
  | n + 1, [_, _, _], l, h => by cases h
  | n + 1, [_, _, _, _], l, h => by cases h
  | n + 1, a :: b :: c :: d :: e :: r, l, h => by
    rw [shotsC] at h
    split at h
    · rename_i x q h1 h2
      cases h
      obtain ⟨g1, g2⟩ := shotsC_some h2
      refine ⟨?_, by rw [List.length_cons, g2]⟩
      rw [shotsCells, List.flatMap_cons, ← shotC_some h1, g1]; rfl
    · cases h
theorem cells_len (x : Shot) : x.cells.length = 5 := rfl
theorem shots_vals {σ : Sg} : ∀ {l : List Shot} {us : List Value}, vrels σ (shotsCells l) us → us = l.flatMap Shot.vals
  | [], us, h => by
    have h : us = [] := h
    subst h; rfl
  | x :: l, us, h => by
    rw [shotsCells, List.flatMap_cons] at h
    have h1 := h.take 5
    have h2 := h.drop 5
    rw [show (x.cells ++ l.flatMap Shot.cells).take 5 = x.cells from rfl] at h1
    rw [show (x.cells ++ l.flatMap Shot.cells).drop 5 = l.flatMap Shot.cells from rfl] at h2
    have e1 := vals_of h1
    have e2 := shots_vals (l := l) h2
    rw [← List.take_append_drop 5 us, e1, e2, List.flatMap_cons]
theorem vals_shots {σ : Sg} : ∀ l : List Shot, vrels σ (shotsCells l) (l.flatMap Shot.vals)
  | [] => by simp [shotsCells, vrels]
  | x :: l => by
    rw [shotsCells, List.flatMap_cons, List.flatMap_cons]
    exact (vals_rel x).append (vals_shots l)
theorem swo_of {cf : Shot → Shot → Int} (h : CmpOk cf) : Sort.SWO (ltOf cf) := ⟨h.swo.1, h.swo.2.1, h.swo.2.2⟩
section
variable {gb : Nat → Option Blk} {ps : FuncId → Bool} {ext : FuncId → Option (List AV → St → Option (AV × St))}
theorem ok_sort : FnOk (mkU gb ps ext) Tryz.prog 38 extSort := by
  intro args s v s' σ w us h H F G hv
  have ent := fun (a : Array Value) (w : World) => enters_by (f := 38) Tryz.func38 (by kernel_rfl) rfl a w
  unfold extSort at h
  split at h
  · rename_i c
    split at h
    · cases h
      obtain ⟨v1, y1, e1, hv1, v2, y2, e2, hv2, rfl⟩ := hv
      have hv1 : v1 = .slice none 0 0 := hv1
      subst hv1; subst e2
      have := arr2 e1; subst this
      rw [ent]
      show Calls _ _ _ _ _
      refine (AnyF.slices_SortFunc_none Tryz.sortL none 0 v2 w).mono ?_
      rintro e w' ⟨rfl, rfl⟩
      exact ⟨_, rfl, σ, by simp [vrel, vrels], Good.refl H⟩
    · cases h
  · rename_i b o len cp c
    split at h
    · rename_i cf cs hcf hcs
      split at h
      · rename_i r hr
        split at h
        · rename_i l hl
          split at h
          · rename_i hdist
            rw [Bool.and_eq_true, Nat.ble_eq] at hdist
            obtain ⟨hdist, hmax⟩ := hdist
            split at h
            · rename_i s1 hwr
              cases h
              obtain ⟨v1, y1, e1, hv1, v2, y2, e2, hv2, rfl⟩ := hv
              subst e2
              have := arr2 e1; subst this
              have hv2 : v2 = .func (.func c) #[] #[] := by
                simp only [vrel, fnrel, vrels] at hv2
                obtain ⟨f', x', y', rfl, rfl, hx, hy⟩ := hv2
                rw [Array.toList_eq_nil_iff] at hx hy
                rw [hx, hy]
              subst hv2
              obtain ⟨a, k, rfl, hlen, ⟨p, hp, hat, hbd⟩, hcap, hroom⟩ := vrel_sl hv1
              obtain ⟨hrl, hll⟩ := shotsC_some hl
              rw [ent]
              show Calls _ _ _ _ _
              by_cases hz : len = 0
              · subst hz
                have hln : l = [] := List.eq_nil_of_length_eq_zero hll
                subst hln
                refine (AnyF.slices_SortFunc_none Tryz.sortL (some a) k _ w).mono ?_
                rintro e w' ⟨rfl, rfl⟩
                refine ⟨_, rfl, σ, by simp [vrel, vrels], ?_⟩
                have := good_row (A := Value) H id #[] hp (xs := []) (by simp [vrels]) hwr 0
                have e0 : Sort.putRow id (Sort.ahead w' 0) p.b (p.sh + o) (#[] : Array Value) = w' := by
                  rw [Sort.ahead_zero]
                  exact Sort.mapBlock_id _ _ _ fun c e fr _ => by
                    apply Array.ext_getElem?
                    intro i
                    rw [Sort.putCells, Array.getElem?_mapIdx]
                    cases c[i]? with
                    | none => rfl
                    | some v => rw [Option.map_some, if_neg (by simp)]
                rw [e0] at this
                exact this
              have := hat (by omega); subst this
              obtain ⟨e, ro, lo, hi, hlk, _⟩ := cells_look hcs
              obtain ⟨cc, fz, h1, h2, h3, h4, h5⟩ := H.cells hp hlk
              have hgl := grab_spec hr
              have hex : ∀ m, m < len * 5 → ∃ y : Value, cc[p.sh + o + m]? = some y ∧ ∃ x, r[m]? = some x ∧ vrel σ x y := by
                intro m hm
                have hmr : m < r.length := by omega
                have e1 := grab_get hr (List.getElem?_eq_getElem hmr)
                obtain ⟨v, hv1, hv2⟩ := h4 (o + m) _ e1
                exact ⟨v, by rw [Nat.add_assoc]; exact hv1, _, List.getElem?_eq_getElem hmr, hv2⟩
              obtain ⟨ys, ha1, ha2⟩ := list_of (len * 5) hex
              have hra : vrels σ r ys := by
                refine vrels.of_get (by omega) fun m hm hm' => ?_
                obtain ⟨_, x, q1, q2⟩ := ha2 m _ (List.getElem?_eq_getElem hm')
                rw [List.getElem?_eq_getElem hm, Option.some.injEq] at q1
                rw [q1]; exact q2
              rw [hrl] at hra
              have has := shots_vals hra
              have hcl : (shotsCells (sortS cf l)).length = len * 5 := by
                rw [shotsCells, flat_sz _ 5 cells_len, (sortS_perm cf l).length_eq, hll]
              have hH : HoldsK Shot.vals 5 w p.b (p.sh + o) l.toArray := by
                intro j hj
                rw [size_flatK] at hj
                have hj : j < len * 5 := by rw [← hll]; simpa using hj
                refine ⟨?_, free_row H hp hwr j (by omega)⟩
                rw [cell_of_block h1]
                have h6 := (ha2 j _ (List.getElem?_eq_getElem (by omega))).1
                rw [h6]
                have h7 : (flatK Shot.vals 5 l.toArray).toList = ys := by rw [flatK_list, has]
                have h8 : j < (flatK Shot.vals 5 l.toArray).size := by rw [size_flatK]; simp; omega
                rw [getElem!_pos (flatK Shot.vals 5 l.toArray) j h8, id, Option.some.injEq]
                simp only [← h7, Array.getElem_toList]
              have hcok := cmpOf_ok hcf
              have hK := AnyQ.slices_SortFunc Tryz.sortL 5 (fun w => by kernel_rfl) (fun w => by kernel_rfl) Shot.vals vals_len vals_one cf (swo_of hcok) c #[] p.b (p.sh + o) k l.toArray w (cmp_enters hcf) (cmp_lays H G hcf _ _ _) hH (H.lt _ _ hp) (by
                show l.length < _
                omega)
              have hsz : l.toArray.size = len := hll
              rw [hsz] at hK
              refine hK.mono ?_
              rintro e w' ⟨rfl, d', n, os, ⟨q1, _, q3⟩, q4, rfl⟩
              refine ⟨_, rfl, σ, by simp [vrel, vrels], ?_⟩
              have e1 : d'.extract 0 len = d' := by rw [← hsz, ← q1]; exact Array.extract_size
              have e2 : l.toArray.extract 0 len = l.toArray := by rw [← hsz]; exact Array.extract_size
              rw [e1, e2] at q3
              have hd : d'.toList = sortS cf l := by
                refine sort_one hcok hdist q3 ?_
                rw [List.pairwise_iff_getElem]
                intro i j hi hj hij
                rw [Array.length_toList] at hi hj
                have := q4 i j (Nat.zero_le _) hij (by omega)
                rw [getElem!_pos d' i hi, getElem!_pos d' j hj, ltOf, decide_eq_false_iff_not] at this
                have h9 := hcok.neg d'[j] d'[i]
                rw [Array.getElem_toList, Array.getElem_toList]
                omega
              have g1 := good_row (A := Value) H id (flatK Shot.vals 5 d') hp (xs := shotsCells (sortS cf l)) (by rw [List.map_id, flatK_list, hd]; exact vals_shots _) hwr n
              exact g1.trans (good_below g1.hr (Lib.below_grow _ _ (Nat.le_refl _) 0 os))
            · cases h
          · cases h
        · cases h
      · cases h
    · cases h
  · cases h
end
end Go.Am
