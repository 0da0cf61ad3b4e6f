/- A part of the proof of a statement of this seat: the machine on which the program is read, and what it computes; for every input. -/
import Derived.Test.YtaoeblefgefgpaaGreatDoorC20
import Derived.Test.YtaoeblefgefgpaaGreatDoorC16
import Derived.Test.YtaoeblefgefgpaaGreatDoorC13
import Derived.ChangeArms
set_option linter.all false
set_option linter.all false
namespace Go.Am
open Go
set_option maxRecDepth 100000
set_option maxHeartbeats 8000000
/-! # The law BenchCollects -/
theorem badL_all : ∀ {l : List Shot}, badL l = 0 → ∀ x ∈ l, badS x = 0
  | [], _, x, h => by simp at h
  | y :: l, h, x, hx => by
    rw [badL] at h
    cases hb : badS y == 0
    · rw [hb, cond_false] at h
      rw [h] at hb; cases hb
    · rw [hb, cond_true] at h
      rcases List.mem_cons.1 hx with rfl | hx
      · simpa using hb
      · exact badL_all h x hx
theorem good_of {x : Shot} (h : badS x = 0) : x.i ≠ [] ∧ 1 ≤ x.n ∧ x.n ≤ 1000 := by
  unfold badS at h
  cases h1 : nameB x.i
  · rw [h1] at h; cases h
  · rw [h1, cond_true] at h
    refine ⟨fun e => (by rw [e] at h1; cases h1), ?_⟩
    cases h2 : inB x.n 1 1000
    · rw [h2] at h; simp at h
    · unfold inB at h2
      rw [Bool.and_eq_true, decide_eq_true_eq, decide_eq_true_eq] at h2
      exact h2
theorem pm_len : ∀ {l : List Shot} {bi : Str} {bn : Int}, 0 ≤ bn → (∀ x ∈ l, 1 ≤ x.n ∧ x.n ≤ 1000) → (pm bi bn l).length ≤ 1000 * l.length
  | [], _, _, _, _ => Nat.le_refl _
  | s :: l, bi, bn, hb, h => by
    rw [pm, List.length_append, gaps_len, List.length_cons]
    have h1 := h s (by simp)
    have h2 := pm_len (bi := s.i) (bn := s.n) (by omega) fun x hx => h x (List.mem_cons_of_mem _ hx)
    have h3 : 0 ≤ (bif s.i != bi then (0 : Int) else bn) := by
      cases s.i != bi
      · exact hb
      · exact Int.le_refl _
    omega
structure Got (l r : List Shot) : Prop where
  len : l.length ≤ 1000
  coll : refColl [] l = r
  rlen : r.length ≤ 1000
  dist : distS cmpK r = true
  nums : ∀ x ∈ r, 1 ≤ x.n ∧ x.n ≤ 1000
  lnums : ∀ x ∈ l, x.n ≤ 1000
  miss : missR l = pm [] 0 (sortS cmpK r)
  mlen : (missR l).length < 2 ^ 40
theorem got_of {l r : List Shot} (hc : collectC l = .got r) : Got l r := by
  have h0 := hc
  unfold collectC at h0
  cases h1 : Nat.blt 1000 l.length
  case true => rw [h1] at h0; cases h0
  rw [h1, cond_false] at h0
  cases h2 : badL l == 0
  case false => rw [h2] at h0; cases h0
  rw [h2, cond_true] at h0
  cases hf : foundL [] l with
  | none => rw [hf] at h0; cases h0
  | some f =>
    rw [hf] at h0
    cases h0
    have hlen : l.length ≤ 1000 := by rw [Bool.eq_false_iff, ne_eq, Nat.blt_eq] at h1; omega
    have hbad : badL l = 0 := by simpa using h2
    have hk := K.foundL_keys l [] f hf .nil
    have hfl := K.found_len l [] f hf
    have hr : (sortS cmpT f).length ≤ 1000 := by rw [(sortS_perm cmpT f).length_eq]; simp at hfl; omega
    have hd : distS cmpK (sortS cmpT f) = true := K.dist_perm cmpK_ok (sortS_perm cmpT f) (distS_iff.2 hk)
    have hmem : ∀ x, x ∈ sortS cmpT f ↔ x ∈ l := fun x => by rw [(sortS_perm cmpT f).mem_iff, foundL_mem hf]; simp
    have hgood : ∀ x ∈ l, x.i ≠ [] ∧ 1 ≤ x.n ∧ x.n ≤ 1000 := fun x hx => good_of (badL_all hbad x hx)
    have hmiss : missR l = pm [] 0 (sortS cmpK (sortS cmpT f)) := by
      refine (miss_same (fun s => ?_) ?_ (fun s hs => (hgood s hs).2.1) fun s hs => (hgood s hs).1).symm
      · rw [(sortS_perm cmpK _).mem_iff, hmem]
      · have hs := sortS_sorted cmpK_ok (sortS cmpT f)
        have hd2 := K.dist_perm cmpK_ok (sortS_perm cmpK (sortS cmpT f)) hd
        rw [distS_iff] at hd2
        exact (hs.and hd2).imp fun {a b} h => by omega
    refine ⟨hlen, coll_same hf hk, hr, hd, fun x hx => (hgood x ((hmem x).1 hx)).2, fun x hx => (hgood x hx).2.2, hmiss, ?_⟩
    rw [hmiss]
    have h5 := pm_len (l := sortS cmpK (sortS cmpT f)) (bi := []) (bn := 0) (Int.le_refl _) fun x hx => (hgood x ((hmem x).1 ((sortS_perm cmpK _).mem_iff.1 hx))).2
    rw [(sortS_perm cmpK _).length_eq] at h5
    omega
theorem c3 (nl : Bool) (l : List Shot) (hl : l.length * 48 ≤ 2 ^ 47) : calV U 3 [encS nl (shotsA l)] = some (.bool true) := by
  refine pure_go k3 (by kernel_rfl) (by simp [stills, still_encS]) ?_
  have q4 := c4 nl l hl
  have q5 := c5 true l
  cases hsh : shortB l with
  | false =>
    rw [hsh] at q5
    simp +contextual only [go_sem, ↓reduceIte, r3, q4, q5, c6, Bool.not_false]
  | true =>
    rw [hsh] at q5
    unfold shortB at hsh
    rw [Bool.and_eq_true] at hsh
    have hlen : l.length ≤ 1003 := by
      have := hsh.1
      unfold manyB at this
      simp at this; omega
    have hstr : ∀ x ∈ l, x.i.length ≤ 60 := fun x hx => by
      have := List.all_eq_true.1 hsh.2 x hx
      unfold shI at this
      simp at this; omega
    have hsS : l.all shortS = true := by
      rw [List.all_eq_true]
      intro x hx
      have := hstr x hx
      rw [shortS, Nat.ble_eq]; omega
    have q7 := c7 nl l hsS
    have q9 := c9 true l hlen fun x hx => by have := hstr x hx; omega
    have hcode : codeC l = match collectC l with | .err e => e | .got _ => 0 := rfl
    cases hc : collectC l with
    | err er =>
      rw [hc] at hcode
      have hcode : codeC l = er := hcode
      have q8 := c8 nl l hsS fun _ r hr => by rw [hc] at hr; cases hr
      rw [collV, hc] at q7
      rw [missV, hc] at q8
      rw [hcode] at q9
      have hne : (er == 0) = false := by simpa using err_ne hc
      have q4' : calV U 4 [.nils] = some .nils := c4 true [] (by simp)
      have q12 : calV U 12 [.nils, .nils] = some (.bool true) := c12 true true [] (by simp)
      have q13 : calV U 13 [.nils, .nils] = some (.bool true) := c13 true true [] (by simp)
      have q14 : calV U 14 [.nils] = some .nils := c14 true [] (by simp)
      simp +contextual only [go_sem, ↓reduceIte, r3, q4, q5, q7, q8, q9, hne, q4', q12, q13, q14, c6, Bool.not_true, beq_self_eq_true]
    | got r =>
      obtain ⟨g1, g2, g3, g4, g5, g6, g7, g8⟩ := got_of hc
      rw [hc] at hcode
      have hcode : codeC l = 0 := hcode
      have q8 := c8 nl l hsS fun _ r' hr => by
        rw [hc] at hr; cases hr
        exact ⟨g3, g4, g5⟩
      rw [collV, hc] at q7
      rw [missV, hc] at q8
      rw [hcode] at q9
      have q10 := c10 true l g1
      rw [g2] at q10
      have q11 := c11 true l g1 g6 g8
      rw [g7] at q11
      rw [g7] at g8
      have q4' := c4 true r (by omega)
      have q12 := c12 true true r (by omega)
      have q13 := c13 true true (pm [] 0 (sortS cmpK r)) g8
      have q14 := c14 true (pm [] 0 (sortS cmpK r)) g8
      simp +contextual only [go_sem, ↓reduceIte, r3, q4, q5, q7, q8, q9, q10, q11, q4', q12, q13, q14, c6, Bool.not_true, beq_self_eq_true]
end Go.Am
set_option linter.all false
namespace Go.Am
open Go Go.Proofs Go.RowKit
set_option maxRecDepth 100000

/-! # Numbers as strings, rows of strings joined, one pointer out of a row -/
theorem itoF_eq : ∀ (f n : Nat) (acc : Str), n < 10 ^ f → f ≠ 0 → itoF f n acc = Lib.decDigits n ++ acc
  | 0, n, acc, h, h0 => absurd rfl h0
  | f + 1, n, acc, h, _ => by
    rw [itoF, Lib.decDigits]
    by_cases hn : n < 10
    · rw [show Nat.blt n 10 = true by rw [Nat.blt_eq]; exact hn, cond_true, dif_pos hn]; rfl
    · have hb : Nat.blt n 10 = false := by rw [Bool.eq_false_iff, ne_eq, Nat.blt_eq]; exact hn
      have hf : f ≠ 0 := by rintro rfl; simp at h; omega
      rw [hb, cond_false, dif_neg hn, itoF_eq f (n / 10) _ (by rw [Nat.pow_succ] at h; omega) hf, List.append_assoc]; rfl
theorem itoE_eq {n : Int} (h0 : -2 ^ 63 ≤ n) (h1 : n < 2 ^ 63) : itoE n = Lib.itoa n := by
  unfold itoE Lib.itoa
  by_cases h : n < 0
  · rw [decide_eq_true h, cond_true, if_pos h, itoF_eq 20 _ _ (by omega) (by omega), List.append_nil]
  · rw [decide_eq_false h, cond_false, if_neg h, itoF_eq 20 _ _ (by omega) (by omega), List.append_nil]

section
variable {ps : FuncId → Bool} {ext : FuncId → Option (List AV → St → Option (AV × St))}
theorem glob_cells {σ : Sg} {s : St} {w : World} (H : HR σ s w) (G : GlobOk (mkU gbU ps ext) σ) {g : Nat} {c : List AV} {t : TypeId} (hg : g < 10) (hc : gcell g = some (c, t)) :
    ∃ cc fz, w.heap[g]? = some (.cells cc t fz) ∧ (∀ j a, c[j]? = some a → ∃ v, cc[0 + j]? = some v ∧ vrel σ.bare a v) ∧ (Stat.spec t = true → cc.size = c.length) := by
  obtain ⟨n, h1, h2⟩ := G g hg
  obtain ⟨_, o, h4, h5⟩ := h2 (.cells c t true 0 0) (by show gbU g = _; unfold gbU; rw [hc])
  have h6 := (H.fz g o h4).1
  cases o with
  | cells cc e fz =>
    obtain ⟨q1, q2, q3, q4, _, q5⟩ := h5
    subst q3
    exact ⟨cc, fz, h6, q4, fun h => by rw [q1]; exact (q5 h).2⟩
  | map => exact h5.elim
  | stringIter => exact h5.elim
  | loop => exact h5.elim
  | _ => exact h5.elim
theorem tab10_eq : tab10.map (fun n : Nat => AV.int .u64 (n : Int)) = Lib.pow10Tab.map fun z => AV.int .u64 z := by
  have : Lib.pow10Tab = tab10.map fun n : Nat => (n : Int) := by decide
  rw [this, List.map_map]; rfl
theorem tab10_is {σ : Sg} {s : St} {w : World} (H : HR σ s w) (G : GlobOk (mkU gbU ps ext) σ) : Lib.TabIs Tryz.prog w "internal/strconv.uint64pow10" .u64 Lib.pow10Tab := by
  obtain ⟨cc, fz, h1, h2, h3⟩ := glob_cells H G (g := 1) (by omega) rfl
  have hz : cc.size = 20 := h3 rfl
  have hg : Tryz.prog.globalNamed "internal/strconv.uint64pow10" = some 1 := by kernel_rfl
  unfold Lib.TabIs World.var?
  rw [hg]
  simp only [Option.bind_some, h1, Option.some.injEq]
  have hlen : (Lib.pow10Tab.map fun z => Value.int .u64 z).length = 20 := by rw [List.length_map, Lib.pow10Tab_length]
  refine Array.ext (by rw [hz]; exact hlen.symm) fun j hj hj' => ?_
  rw [hz] at hj
  have hj2 : j < Lib.pow10Tab.length := by rw [Lib.pow10Tab_length]; exact hj
  have e : (tab10.map fun n : Nat => AV.int .u64 (n : Int))[j]? = some (.int .u64 Lib.pow10Tab[j]) := by rw [tab10_eq, List.getElem?_map, List.getElem?_eq_getElem hj2]; rfl
  obtain ⟨v, q1, q2⟩ := h2 j _ e
  have q2 : v = .int .u64 Lib.pow10Tab[j] := q2
  rw [Nat.zero_add, Array.getElem?_eq_getElem (by omega), Option.some.injEq] at q1
  rw [q1, q2]
  simp
theorem enters_88 (args : Array Value) (w : World) : (callFunc 48 args).run Tryz.prog w = .ok (.enter 48 args) w := enters_by Tryz.func48 (by kernel_rfl) rfl args w
theorem enters_152 (args : Array Value) (w : World) : (callFunc 60 args).run Tryz.prog w = .ok (.enter 60 args) w := enters_by Tryz.func60 (by kernel_rfl) rfl args w
theorem ok_itoa : FnOk (mkU gbU ps ext) Tryz.prog 48 extItoa := by
  intro args s v s' σ w us h H F G hv
  unfold extItoa at h
  split at h
  · rename_i n
    cases hc : (decide (-2 ^ 63 ≤ n) && decide (n < 2 ^ 63))
    · rw [hc] at h; cases h
    rw [hc] at h
    cases h
    rw [Bool.and_eq_true, decide_eq_true_eq, decide_eq_true_eq] at hc
    obtain ⟨v1, y1, e1, rfl, e2⟩ := hv
    rw [e2] at e1
    have := arr1 e1; subst this
    rw [enters_88]
    show Calls _ _ _ _ _
    refine (Any.strconv_Itoa Tryz.laysM171 n (by omega) (by omega) w (tab10_is H G)).mono ?_
    rintro e w' ⟨rfl, k, os, rfl⟩
    refine ⟨_, rfl, σ, ⟨_, rfl, ?_⟩, good_below H (Lib.below_grow _ w (Nat.le_refl _) k os)⟩
    rw [itoE_eq hc.1 hc.2]
  · cases h

/-! ### Rows of strings -/
theorem list_of {A : Type} {Q : Nat → A → Prop} : ∀ n : Nat, (∀ i, i < n → ∃ y, Q i y) → ∃ l : List A, l.length = n ∧ ∀ i y, l[i]? = some y → Q i y
  | 0, _ => ⟨[], rfl, fun i y h => by simp at h⟩
  | n + 1, h => by
    obtain ⟨l, h1, h2⟩ := list_of n fun i hi => h i (by omega)
    obtain ⟨y, hy⟩ := h n (by omega)
    refine ⟨l ++ [y], by simp [h1], fun i z hz => ?_⟩
    by_cases hi : i < l.length
    · rw [List.getElem?_append_left hi] at hz
      exact h2 i z hz
    · rw [List.getElem?_append_right (by omega)] at hz
      have : i = n := by
        rcases Nat.lt_or_ge (i - l.length) 1 with h | h
        · omega
        · rw [List.getElem?_eq_none (by simp; omega)] at hz; cases hz
      subst this
      rw [h1, Nat.sub_self] at hz
      cases hz; exact hy

theorem strL_some : ∀ {es : List AV} {l : List Str}, strL es = some l → es = l.map .str
  | [], l, h => by cases h; rfl
  | x :: es, l, h => by
    cases x <;> simp only [strL] at h <;> try (cases h; done)
    split at h
    · rename_i r hr
      cases h
      rw [strL_some hr]; rfl
    · cases h
theorem strs_rel {σ : Sg} : ∀ {l : List Str} {us : List Value}, vrels σ (l.map .str) us → ∃ xs : List ByteArray, us = xs.map .string ∧ xs.map (fun x => x.data.toList) = l
  | [], us, h => by
    have h : us = [] := h
    subst h; exact ⟨[], rfl, rfl⟩
  | a :: l, us, h => by
    obtain ⟨u, y, rfl, ⟨bs, rfl, hb⟩, h2⟩ := h
    obtain ⟨xs, rfl, h3⟩ := strs_rel h2
    exact ⟨bs :: xs, rfl, by rw [List.map_cons, hb, h3]⟩
theorem str_cells : ∀ (xs : List ByteArray), (xs.map Value.string).flatMap (fun u => u.cells.toList) = xs.map Value.string
  | [] => rfl
  | x :: xs => by
    rw [List.map_cons, List.flatMap_cons, str_cells xs]; rfl
/-- a row of strings, wherever it lies -/
theorem strs_at {σ : Sg} {s : St} {w : World} (H : HR σ s w) {v : AV} {u : Value} {l : List Str} (hv : vrel σ v u) (h : strsOf v s = some l) :
    (l = [] ∧ ∃ a c, u = .slice a 0 c) ∨ ∃ bk o c, ∃ xs : List ByteArray, u = .slice (some ⟨bk, o, none⟩) xs.length c ∧ (∀ (j : Nat) x, xs[j]? = some x → w.cell? ⟨bk, o + j, none⟩ = some (.string x)) ∧ bk < w.heap.size ∧ xs.length ≤ c ∧ xs.map (fun x => x.data.toList) = l := by
  unfold strsOf at h
  split at h
  · cases h
    have hv : u = .slice none 0 0 := hv
    subst hv
    exact .inl ⟨rfl, _, _, rfl⟩
  · rename_i es
    have := strL_some h
    subst this
    obtain ⟨a, c, us, rfl, h1, h2, h3⟩ := vrel_fz hv
    obtain ⟨xs, rfl, hx⟩ := strs_rel h2
    have hlen : l.length = xs.length := by rw [← hx, List.length_map]
    rcases h3 with h3 | ⟨hs, cc, e, fz, n, hz, hn, hall, hcell⟩
    · have : xs = [] := by simpa using h3
      subst this
      have : l = [] := hx.symm
      subst this
      exact .inl ⟨rfl, _, _, rfl⟩
    · cases xs with
      | nil =>
        have : l = [] := hx.symm
        subst this
        exact .inl ⟨rfl, _, _, rfl⟩
      | cons x0 xs0 =>
        right
        have hheap := (H.fz _ _ hz).1
        refine ⟨a.block, a.off, c, x0 :: xs0, ?_, fun j x hj => ?_, (Array.getElem?_eq_some_iff.1 hheap).1, by simpa [hlen] using h1, hx⟩
        · obtain ⟨ab, ao, asp⟩ := a
          simp only at hs
          subst hs
          rw [List.length_map, hlen]
        · rw [str_cells] at hcell
          have := hcell j (.string x) (by rw [List.getElem?_map, hj]; rfl)
          rw [cell_of_block hheap]; exact this
  · rename_i b o len cap
    split at h
    · rename_i c hc
      split at h
      · rename_i r hr
        have := strL_some h
        subst this
        obtain ⟨a, k, rfl, hlen, ⟨p, hp, hat, _⟩, _⟩ := vrel_sl hv
        unfold St.cells at hc
        split at hc
        · rename_i c0 e ro lo hi hg
          cases hc
          obtain ⟨cc, fz, h1, h2, h3, h4, h5⟩ := H.cells hp (St.look_some hg (by simp))
          have hgl := grab_spec hr
          rw [List.length_map] at hgl
          cases hL : l with
          | nil =>
            left
            subst hL
            have hl0 : len = 0 := hgl.1.symm
            subst hl0
            exact ⟨rfl, _, _, rfl⟩
          | cons x l0 =>
            right
            rw [← hL]
            have hne : l.length ≠ 0 := by rw [hL]; simp
            have hk : k ≠ 0 := by have := hgl.1; omega
            have := hat hk; subst this
            -- the cells
            have hex : ∀ j, j < l.length → ∃ bs : ByteArray, cc[p.sh + o + j]? = some (.string bs) ∧ bs.data.toList = l[j]! := by
              intro j hj
              have e1 := grab_get hr (i := j) (a := .str (l[j]!)) (by rw [List.getElem?_map, List.getElem?_eq_getElem hj]; simp [getElem!_pos l j hj])
              obtain ⟨v, hv1, bs, rfl, hb⟩ := h4 (o + j) _ e1
              exact ⟨bs, by rw [Nat.add_assoc]; exact hv1, hb⟩
            obtain ⟨xs, hx1, hx2⟩ := list_of l.length hex
            refine ⟨p.b, p.sh + o, k, xs, by rw [hx1, hgl.1], fun j y hj => ?_, H.lt _ _ hp, by rw [hx1]; have := hgl.1; omega, ?_⟩
            · rw [cell_of_block h1]; exact (hx2 j y hj).1
            · apply List.ext_getElem
              · rw [List.length_map, hx1]
              · intro j g1 g2
                rw [List.getElem_map]
                have g3 : j < xs.length := by rw [List.length_map] at g1; exact g1
                have := (hx2 j xs[j] (List.getElem?_eq_getElem g3)).2
                rw [this, getElem!_pos l j g2]
        · cases hc
      · cases h
    · cases h
  · cases h
theorem joinL_eq (sep : Str) : ∀ l : List Str, joinL sep l = Lib.join l sep
  | [] => rfl
  | [x] => by rw [joinL, Lib.join_one]
  | x :: y :: l => by
    rw [joinL, joinL_eq sep (y :: l)]
    · simp [Lib.join, List.intercalate]
    · simp
theorem ok_join : FnOk (mkU gbU ps ext) Tryz.prog 60 extJoin := by
  intro args s v s' σ w us h H F G hv
  unfold extJoin at h
  split at h
  · rename_i v0 sep
    split at h
    · rename_i l hl
      cases hc : (Nat.ble (joinL sep l).length 1000000 && Nat.ble l.length 1000000)
      · rw [hc] at h; cases h
      rw [hc] at h
      cases h
      simp only [Bool.and_eq_true, Nat.ble_eq] at hc
      obtain ⟨v1, y1, e1, hv1, v2, y2, e2, ⟨bs, rfl, hbs⟩, e3⟩ := hv
      subst e2; rw [e3] at e1
      have := arr2 e1; subst this
      rw [enters_152]
      show Calls _ _ _ _ _
      rcases strs_at H hv1 hl with ⟨rfl, a, c, rfl⟩ | ⟨bk, o, c, xs, rfl, h1, h2, h3, rfl⟩
      · refine (Any.strings_Join_none Tryz.lays156 Tryz.Builder_Extra_156 a c bs w).mono ?_
        rintro e w' ⟨rfl, rfl⟩
        exact ⟨_, rfl, σ, ⟨_, rfl, rfl⟩, Good.refl H⟩
      · rw [joinL_eq] at hc
        refine (Any.strings_Join Tryz.lays156 Tryz.Builder_Extra_156 bk o c xs bs w h1 h2 (by have := hc.2; rw [List.length_map] at this; omega) h3 (by rw [hbs]; omega)).mono ?_
        rintro e w' ⟨rfl, hB⟩
        refine ⟨_, rfl, σ, ⟨_, rfl, ?_⟩, good_below H hB⟩
        rw [joinL_eq, hbs]
    · cases h
  · cases h
end
end Go.Am
set_option linter.all false
namespace Go.Am
open Go
/-! # What comes in: read as values of the machine that nobody writes -/

theorem flat_ce {k : Nat} {f : Nat → Option Value} : ∀ (us : List Value) (off : Nat), (∀ u ∈ us, u.cells.size = k) → (∀ q u, us[q]? = some u → ∀ r x, u.cells.toList[r]? = some x → f (off + q * k + r) = some x) →
    ∀ i v, (us.flatMap fun u => u.cells.toList)[i]? = some v → f (off + i) = some v
  | [], off, _, _, i, v, h => by simp at h
  | u :: us, off, hs, hq, i, v, h => by
    rw [List.flatMap_cons] at h
    have hk : u.cells.toList.length = k := by rw [Array.length_toList]; exact hs u (List.mem_cons_self ..)
    by_cases hi : i < k
    · rw [List.getElem?_append_left (by omega)] at h
      have := hq 0 u rfl i v h
      rwa [Nat.zero_mul, Nat.add_zero] at this
    · rw [List.getElem?_append_right (by omega), hk] at h
      have := flat_ce us (off + k) (fun u hu => hs u (List.mem_cons_of_mem _ hu)) (fun q u' hu r x hx => by
        have := hq (q + 1) u' (by simpa using hu) r x hx
        rw [Nat.succ_mul] at this
        rw [show off + k + q * k + r = off + (q * k + k) + r from by omega]; exact this) (i - k) v h
      rwa [show off + k + (i - k) = off + i from by omega] at this
theorem vrels_of {σ : Sg} {A : Type} (enc : A → AV) : ∀ (l : List A) (us : List Value), l.length = us.length → (∀ (i : Nat) (a : A) (u : Value), l[i]? = some a → us[i]? = some u → vrel σ (enc a) u) → vrels σ (l.map enc) us
  | [], [], _, _ => rfl
  | a :: l, u :: us, h, H => by
    rw [List.map_cons, vrels]
    exact ⟨u, us, rfl, H 0 a u rfl rfl, vrels_of enc l us (by simpa using h) fun i a' u' h1 h2 => H (i + 1) a' u' (by simpa using h1) (by simpa using h2)⟩
  | [], _ :: _, h, _ => by simp at h
  | _ :: _, [], h, _ => by simp at h
theorem mapM_range_some {f : Nat → Option Value} {n : Nat} {l : List Value} (h : (List.range n).mapM f = some l) : l.length = n ∧ ∀ i, i < n → f i = l[i]? := by
  have key : ∀ (m : List Nat) (l : List Value), m.mapM f = some l → l.length = m.length ∧ ∀ i (hi : i < m.length), f m[i] = l[i]? := by
    intro m
    induction m with
    | nil => intro l h; simp at h; subst h; exact ⟨rfl, fun i hi => by simp at hi⟩
    | cons a m ih =>
      intro l h
      rw [List.mapM_cons] at h
      cases ha : f a with
      | none => rw [ha] at h; cases h
      | some x =>
        rw [ha] at h
        cases hm : m.mapM f with
        | none => rw [hm] at h; cases h
        | some l' =>
          rw [hm] at h
          cases h
          obtain ⟨h1, h2⟩ := ih l' hm
          refine ⟨by simp [h1], fun i hi => ?_⟩
          cases i with
          | zero => exact ha
          | succ i => simpa using h2 i (by simpa using hi)
  obtain ⟨h1, h2⟩ := key _ _ h
  rw [List.length_range] at h1
  refine ⟨h1, fun i hi => ?_⟩
  have := h2 i (by rw [List.length_range]; exact hi)
  rwa [List.getElem_range] at this
theorem cells_some {w : World} {base : Nat} {a : Addr} {n : Nat} {cs : List Value} (h : w.cells? base a n = some cs) : cs.length = n ∧ ∀ i, i < n → w.cell? (a.add i) = cs[i]? := by
  unfold World.cells? at h
  split at h
  · exact mapM_range_some h
  · cases h
theorem cell_some {w : World} {a : Addr} {v : Value} (h : w.cell? a = some v) : a.spot = none ∧ ∃ cc e fz, w.heap[a.block]? = some (.cells cc e fz) ∧ cc[a.off]? = some v := by
  unfold World.cell? at h
  split at h
  · rename_i c e fz hc
    split at h
    · cases h
    · rename_i hs
      refine ⟨?_, c, e, fz, hc, h⟩
      cases hsp : a.spot with
      | none => rfl
      | some x => rw [hsp] at hs; simp at hs
  · cases h
theorem add_block (a : Addr) (n : Nat) : (a.add n).block = a.block := by unfold Addr.add; split <;> rfl
theorem add_off (a : Addr) (n : Nat) : (a.add n).off = a.off + n := by
  unfold Addr.add; split
  · rename_i h; subst h; rfl
  · rfl

variable {H : Type} {enc : TypeId × Value → H} {P : Program} {w : World} {σ : Sg}
/-- an encoder of data whose cells are a type's -/
def encS' (nl : Bool) (l : List AV) : AV := match nl, l with
  | true, [] => .nils
  | _, l => .fz l
theorem open_row (hz : ∀ b o, w.heap[b]? = some o → σ.fz b = some o) {A : Type} (en : A → AV) {k : Nat} (hk : k ≠ 0) {e t : TypeId} (ht : P.underlying t = some (.slice e)) (hc : P.cellsOf e = k) {base : Nat} {spare : Nat → Bool} {held : Bool} {fuel : Nat} {cs : List Value} {x : DataW H × List MemPlace}
    (h : DataW.trod enc P w base spare held fuel t cs = some x) (HE : ∀ m cs x, m < fuel → DataW.trod enc P w base spare held m e cs = some x → ∃ (y : A) (u : Value), vrel σ.bare (en y) u ∧ u.cells.toList = cs) :
    ∃ (nl : Bool) (l : List A) (v : Value), cs = [v] ∧ vrel σ.bare (encS' nl (l.map en)) v ∧ l.length ≤ maxLen ∧ (l = [] ∨ ∃ es sp, x.1 = .slice es sp ∧ l.length ≤ es.length) := by
  rcases DataW.trod_slice ht h with ⟨rfl, _⟩ | ⟨a, len, cap, elems, rest, n, hn, rfl, hxe, _, h1, h2, h3, h4, _, _⟩
  · exact ⟨true, [], _, rfl, rfl, Nat.zero_le _, .inl rfl⟩
  · have hex : ∀ i, i < len → ∃ yu : A × Value, vrel σ.bare (en yu.1) yu.2 ∧ yu.2.cells.size = k ∧ ∀ r v, yu.2.cells.toList[r]? = some v → w.cell? ((a.add (i * k)).add r) = some v := by
      intro i hi
      have := h4 i hi
      rw [hc] at this
      have hs : ∃ z, elems[i]? = some z := ⟨elems[i]'(by omega), List.getElem?_eq_getElem _⟩
      obtain ⟨z, hz'⟩ := hs
      rw [hz'] at this
      cases hcs : w.cells? base (a.add (i * k)) k with
      | none => rw [hcs] at this; cases this
      | some c =>
        rw [hcs] at this
        obtain ⟨y, u, hu, hu2⟩ := HE n c z (by omega) this
        obtain ⟨g1, g2⟩ := cells_some hcs
        refine ⟨(y, u), hu, ?_, fun r v hr => ?_⟩
        · rw [← Array.length_toList, hu2, g1]
        · rw [hu2] at hr
          rw [g2 r (by
            rcases Nat.lt_or_ge r c.length with h | h
            · omega
            · rw [List.getElem?_eq_none h] at hr; cases hr)]
          exact hr
    obtain ⟨l, hl, hl2⟩ := list_of len hex
    have hus : ∀ q u, (l.map Prod.snd)[q]? = some u → ∃ yu : A × Value, l[q]? = some yu ∧ yu.2 = u := fun q u hq => by
      rw [List.getElem?_map] at hq
      obtain ⟨yu, h7, h8⟩ := Option.map_eq_some_iff.1 hq
      exact ⟨yu, h7, h8⟩
    refine ⟨false, l.map Prod.fst, _, rfl, ?_, by rw [List.length_map]; omega, .inr ⟨_, _, by rw [hxe], by rw [List.length_map, List.length_map]; omega⟩⟩
    have hfz : encS' false ((l.map Prod.fst).map en) = .fz ((l.map Prod.fst).map en) := by
      cases (l.map Prod.fst).map en <;> rfl
    rw [hfz, vrel]
    refine ⟨a, cap, l.map Prod.snd, by rw [List.length_map, List.length_map, hl], by rw [List.length_map, List.length_map, hl]; exact h1, ?_, ?_⟩
    · refine vrels_of en _ _ (by simp) fun i y u h5 h6 => ?_
      obtain ⟨yu, h7, rfl⟩ := hus i u h6
      rw [List.getElem?_map, h7] at h5
      cases h5
      exact (hl2 i yu h7).1
    · cases l with
      | nil => exact .inl rfl
      | cons yu l =>
        right
        obtain ⟨g1, g2, g3⟩ := hl2 0 yu rfl
        have hc0 : ∃ v, yu.2.cells.toList[0]? = some v := ⟨yu.2.cells.toList[0]'(by rw [Array.length_toList]; omega), List.getElem?_eq_getElem _⟩
        obtain ⟨v0, hv0⟩ := hc0
        obtain ⟨s1, cc, e', fz, s2, s3⟩ := cell_some (g3 0 v0 hv0)
        have hsp : a.spot = none := by
          have h8 := g3 0 v0 hv0
          rw [Nat.zero_mul] at h8
          exact (cell_some (a := a) (by simpa [Addr.add] using h8)).1
        rw [add_block, add_block] at s2
        refine ⟨hsp, cc, e', fz, k, hz _ _ s2, hk, fun u hu => ?_, ?_⟩
        · obtain ⟨q, hq⟩ := List.mem_iff_getElem?.1 hu
          obtain ⟨yu', h7, rfl⟩ := hus q u hq
          exact (hl2 q yu' h7).2.1
        · refine flat_ce (k := k) (f := fun i => cc[i]?) _ a.off (fun u hu => ?_) fun q u hq r x hx => ?_
          · obtain ⟨q, hq⟩ := List.mem_iff_getElem?.1 hu
            obtain ⟨yu', h7, rfl⟩ := hus q u hq
            exact (hl2 q yu' h7).2.1
          · obtain ⟨yu', h7, rfl⟩ := hus q u hq
            obtain ⟨_, cc', e'', fz', s4, s5⟩ := cell_some ((hl2 q yu' h7).2.2 r x hx)
            rw [add_block, add_block, s2] at s4
            cases s4
            rw [add_off, add_off] at s5
            exact s5
end Go.Am
set_option linter.all false
namespace Go.Am
open Go Go.Proofs
set_option maxRecDepth 100000

/-! # What comes in, as shots -/

variable {H : Type} {enc : TypeId × Value → H} {w : World} {σ : Sg}
theorem encS'_eq (nl : Bool) (l : List AV) : encS' nl l = encS nl l := by cases nl <;> cases l <;> rfl
theorem cz_3 : Tryz.prog.cellsOf 3 = 1 := by kernel_rfl
theorem cz_9 : Tryz.prog.cellsOf 9 = 1 := by kernel_rfl
theorem cz_42 : Tryz.prog.cellsOf 42 = 5 := by kernel_rfl
theorem by_42 : Tryz.prog.bytesOf 42 = 48 := by kernel_rfl
theorem some_of {α : Type} {l : List α} {i : Nat} (h : i < l.length) : ∃ x, l[i]? = some x := ⟨l[i], List.getElem?_eq_getElem h⟩
theorem shot_of {base : Nat} {spare : Nat → Bool} {held : Bool} {fuel : Nat} {cs : List Value} {x : DataW H × List MemPlace} (h : DataW.trod enc Tryz.prog w base spare held fuel 42 cs = some x) :
    ∃ (c : Shot) (u : Value), vrel σ.bare c.av u ∧ u.cells.toList = cs := by
  obtain ⟨xs, n, hn, _, hlen, hsz, hel⟩ := DataW.trod_struct Tryz.underlying42 h
  rw [cz_42] at hlen
  match cs, hlen with
  | [v0, v1, v2, v3, v4], _ =>
    have hx7 : xs.length = 5 := hsz
    have h0 := hel 0 _ rfl
    have h1 := hel 1 _ rfl
    have h2 := hel 2 _ rfl
    have h3 := hel 3 _ rfl
    have h4 := hel 4 _ rfl
    try simp only [cz_3, cz_9, List.drop_zero, List.drop_succ_cons, List.take_succ_cons, List.take_zero] at h0 h1 h2 h3 h4
    obtain ⟨x0, e0⟩ := some_of (l := xs) (i := 0) (by omega)
    obtain ⟨x1, e1⟩ := some_of (l := xs) (i := 1) (by omega)
    obtain ⟨x2, e2⟩ := some_of (l := xs) (i := 2) (by omega)
    obtain ⟨x3, e3⟩ := some_of (l := xs) (i := 3) (by omega)
    obtain ⟨x4, e4⟩ := some_of (l := xs) (i := 4) (by omega)
    rw [e0] at h0; rw [e1] at h1; rw [e2] at h2; rw [e3] at h3; rw [e4] at h4
    obtain ⟨s0, f0, _, _⟩ := DataW.trod_string Tryz.underlying9 h0
    obtain ⟨n1, f1, _, _⟩ := DataW.trod_int Tryz.underlying3 h1
    obtain ⟨n2, f2, _, _⟩ := DataW.trod_int Tryz.underlying3 h2
    obtain ⟨n3, f3, _, _⟩ := DataW.trod_int Tryz.underlying3 h3
    obtain ⟨n4, f4, _, _⟩ := DataW.trod_int Tryz.underlying3 h4
    cases f0; cases f1; cases f2; cases f3; cases f4
    refine ⟨⟨s0.data.toList, n1, n2, n3, n4⟩, .agg #[.string s0, .int .i64 n1, .int .i64 n2, .int .i64 n3, .int .i64 n4], ?_, rfl⟩
    rw [shot_cells]
    exact ⟨_, rfl, _, _, rfl, ⟨s0, rfl, rfl⟩, _, _, rfl, rfl, _, _, rfl, rfl, _, _, rfl, rfl, _, _, rfl, rfl, rfl⟩
theorem shots_of (hz : ∀ b o, w.heap[b]? = some o → σ.fz b = some o) {base : Nat} {spare : Nat → Bool} {held : Bool} {fuel : Nat} {cs : List Value} {x : DataW H × List MemPlace} (h : DataW.trod enc Tryz.prog w base spare held fuel 22 cs = some x) :
    ∃ (nl : Bool) (l : List Shot) (v : Value), cs = [v] ∧ vrel σ.bare (encS nl (shotsA l)) v ∧ (l = [] ∨ ∃ es sp, x.1 = .slice es sp ∧ l.length ≤ es.length) := by
  obtain ⟨nl, l, v, e, hr, _, h2⟩ := open_row hz Shot.av (k := 5) (by omega) Tryz.underlying22 cz_42 h fun m cs x hm hx => shot_of hx
  rw [encS'_eq] at hr
  exact ⟨nl, l, v, e, hr, h2⟩
end Go.Am
set_option linter.all false
namespace Go.Am
open Go Go.Proofs Go.RowKit
set_option maxRecDepth 100000

/-! # Pointers taken out of a row -/
section
variable {gb : Nat → Option Blk} {ps : FuncId → Bool} {ext : FuncId → Option (List AV → St → Option (AV × St))}
theorem ptr_of {σ : Sg} {x : AV} {u : Value} (h : vrel σ x u) (hp : isPtr x = true) : ∃ a, u = .pointer a := by
  cases x <;> simp only [isPtr] at hp <;> first | (cases hp; done) | skip
  · exact ⟨none, by simpa only [vrel] using h⟩
  · obtain ⟨p, _, rfl⟩ := vrel_ptr h
    exact ⟨_, rfl⟩
theorem mapBlock_at {w : World} {b : Nat} {f : Array Value → Array Value} {c : Array Value} {e : TypeId} {fz : Nat × Nat} (h : w.heap[b]? = some (.cells c e fz)) : (Sort.mapBlock w b f).heap[b]? = some (.cells (f c) e fz) := by
  simp [Sort.mapBlock, Array.getElem?_modify, h, Sort.onCells]
theorem mapBlock_ne {w : World} {b c : Nat} {f : Array Value → Array Value} (h : c ≠ b) : (Sort.mapBlock w b f).heap[c]? = w.heap[c]? := by
  simp only [Sort.mapBlock, Array.getElem?_modify]
  rw [if_neg (fun e => h e.symm)]
theorem vrels_reps {σ : Sg} : ∀ n, vrels σ (List.replicate n .nilp) (List.replicate n (Value.pointer none))
  | 0 => by simp [vrels]
  | n + 1 => by
    rw [List.replicate_succ, List.replicate_succ, vrels]
    exact ⟨_, _, rfl, by simp only [vrel], vrels_reps n⟩
/-- a row that is laid anew in its place -/
theorem good_row {A : Type} [Inhabited A] {σ : Sg} {s s' : St} {w : World} (H : HR σ s w) {b o : Nat} {p : Pl} {xs : List AV} (enc : A → Value) (d : Array A) (hp : σ b = some p) (hx : vrels σ xs (d.toList.map enc)) (h : writeCells s b o xs = some s') (q : Nat) : Good σ s w σ s' (Sort.putRow enc (Sort.ahead w q) p.b (p.sh + o) d) := by
  unfold writeCells at h
  split at h
  · rename_i c e flo fhi hg
    split at h
    · rename_i hcond
      split at h
      · rename_i c' hlay
        cases h
        have hl : s.look b = some (.cells c e false flo fhi) := St.look_some hg (by simp)
        obtain ⟨cc, fz, h1, h2, h3, h4, h5⟩ := H.cells hp hl
        obtain ⟨g1, g2, g3⟩ := lay_spec hlay
        have hlen : xs.length = d.size := by have := hx.length; simpa using this
        have hat : (Sort.putRow enc (Sort.ahead w q) p.b (p.sh + o) d).heap[p.b]? = some (.cells (Sort.putCells enc (p.sh + o) d cc) e fz) := mapBlock_at h1
        have hsz : (Sort.putCells enc (p.sh + o) d cc).size = cc.size := by simp [Sort.putCells]
        refine Good.put H hp hl rfl (by simp) (by simp) (fun c hc => mapBlock_ne hc) hat ⟨by rw [hsz, h2], by rw [g1]; exact h3, rfl, ?_, h5, by rw [g1]; exact H.spec hp hl⟩ rfl rfl rfl (Drw.of (by show w.drawn ≤ w.drawn + q; omega))
        intro j a ha
        rw [g3 j] at ha
        by_cases hj : o ≤ j ∧ j < o + xs.length
        · rw [if_pos hj] at ha
          obtain ⟨v, hv1, hv2⟩ := vrels.get hx _ _ ha
          refine ⟨v, ?_, hv2⟩
          have hne : xs ≠ [] := by rintro rfl; simp at hj; omega
          have := g2 hne
          have hlt : p.sh + j < cc.size := by omega
          rw [List.getElem?_map, Array.getElem?_toList] at hv1
          rw [Sort.putCells, Array.getElem?_mapIdx, Array.getElem?_eq_getElem hlt, Option.map_some, if_pos ⟨by omega, by omega⟩, show p.sh + j - (p.sh + o) = j - o by omega]
          rw [Array.getElem?_eq_getElem (by omega), Option.map_some, Option.some.injEq] at hv1
          rw [getElem!_pos d (j - o) (by omega), hv1]
        · rw [if_neg hj] at ha
          obtain ⟨v, hv1, hv2⟩ := h4 j a ha
          refine ⟨v, ?_, hv2⟩
          rw [Sort.putCells, Array.getElem?_mapIdx, hv1, Option.map_some, if_neg (by omega)]
      · cases h
    · cases h
  · cases h
/-- nothing of it is shared with a string -/
theorem free_row {σ : Sg} {s s' : St} {w : World} (H : HR σ s w) {b o : Nat} {p : Pl} {xs : List AV} (hp : σ b = some p) (h : writeCells s b o xs = some s') (j : Nat) (hj : j < xs.length) : w.frozen? ⟨p.b, p.sh + o + j, none⟩ = false := by
  unfold writeCells at h
  split at h
  · rename_i c e flo fhi hg
    split at h
    · rename_i hcond
      simp only [Bool.and_eq_true, Bool.or_eq_true, decide_eq_true_eq] at hcond
      split at h
      · rename_i c' hlay
        have hl : s.look b = some (.cells c e false flo fhi) := St.look_some hg (by simp)
        obtain ⟨cc, fz, h1, h2, h3, h4, h5⟩ := H.cells hp hl
        obtain ⟨g1, g2, g3⟩ := lay_spec hlay
        have hne : xs ≠ [] := by rintro rfl; simp at hj
        have := g2 hne
        simp only [World.frozen?, h1]
        rw [Bool.eq_false_iff]
        intro hh
        simp only [Bool.and_eq_true, decide_eq_true_eq] at hh
        obtain ⟨q1, q2⟩ := h5 rfl (o + j) (by omega) (by omega) (by omega)
        rcases hcond.1 with hf | hf <;> omega
      · cases h
    · cases h
  · cases h
theorem i135s : (Tryz.prog.info? 135).isSome = true := by kernel_rfl
theorem i135z : (Option.get (Tryz.prog.info? 135) i135s).size = 1 := by kernel_rfl
theorem ok_delete : FnOk (mkU gb ps ext) Tryz.prog 73 extDelete := by
  intro args s v s' σ w us h H F G hv
  unfold extDelete at h
  split at h
  · rename_i b o len cp i j
    split at h
    · rename_i cs hcs
      split at h
      · rename_i r hr
        cases hc : (decide (0 ≤ i) && decide (i ≤ j) && decide (j ≤ (len : Int)) && !Nat.beq len 0 && r.all isPtr)
        · rw [hc] at h; cases h
        rw [hc] at h
        dsimp only [cond_true] at h
        simp only [Bool.and_eq_true, decide_eq_true_eq, Bool.not_eq_true'] at hc
        obtain ⟨⟨⟨⟨hi0, hij⟩, hjl⟩, hne⟩, hptr⟩ := hc
        have hne : len ≠ 0 := by
          rintro rfl; simp at hne
        split at h
        · rename_i s1 hwr
          cases h
          obtain ⟨v1, y1, e1, hv1, v2, y2, e2, rfl, v3, y3, e3, rfl, e4⟩ := hv
          subst e4; subst e3; subst e2
          have := arr3 e1; subst this
          obtain ⟨a, k, rfl, hlen, ⟨p, hp, hat, hbd⟩, hcap, hroom⟩ := vrel_sl hv1
          have := hat (by omega); subst this
          obtain ⟨e, ro, lo, hi, hl, _⟩ := cells_look hcs
          obtain ⟨cc, fz, h1, h2, h3, h4, h5⟩ := H.cells hp hl
          have hgl := grab_spec hr
          have hex : ∀ m, m < len → ∃ y : Option Addr, cc[p.sh + o + m]? = some (.pointer y) ∧ ∃ x, r[m]? = some x ∧ vrel σ x (.pointer y) := by
            intro m hm
            have hmr : m < r.length := by omega
            have e1 := grab_get hr (List.getElem?_eq_getElem hmr)
            obtain ⟨v, hv1, hv2⟩ := h4 (o + m) _ e1
            obtain ⟨y, rfl⟩ := ptr_of hv2 (List.all_eq_true.1 hptr _ (List.getElem_mem hmr))
            exact ⟨y, by rw [Nat.add_assoc]; exact hv1, _, List.getElem?_eq_getElem hmr, hv2⟩
          obtain ⟨ys, ha1, ha2⟩ := list_of len hex
          have hra : vrels σ r (ys.map Value.pointer) := by
            refine vrels.of_get (by rw [List.length_map]; omega) fun m hm hm' => ?_
            rw [List.length_map] at hm'
            obtain ⟨_, x, q1, q2⟩ := ha2 m _ (List.getElem?_eq_getElem hm')
            rw [List.getElem?_eq_getElem hm, Option.some.injEq] at q1
            rw [q1, List.getElem_map]; exact q2
          have hnew : vrels σ (r.take i.toNat ++ r.drop j.toNat ++ List.replicate (j.toNat - i.toNat) .nilp) (((ys.take i.toNat ++ ys.drop j.toNat ++ List.replicate (j.toNat - i.toNat) none).toArray).toList.map Value.pointer) := by
            simp only [List.map_append, List.map_take, List.map_drop, List.map_replicate]
            exact ((hra.take _).append (hra.drop _)).append (vrels_reps _)
          have hnl : (r.take i.toNat ++ r.drop j.toNat ++ List.replicate (j.toNat - i.toNat) AV.nilp).length = len := by
            simp only [List.length_append, List.length_take, List.length_drop, List.length_replicate]; omega
          have hH : Sort.Holds Value.pointer w p.b (p.sh + o) ys.toArray := by
            intro m hm
            have hm : m < ys.length := by simpa using hm
            refine ⟨?_, free_row H hp hwr m (by omega)⟩
            rw [cell_of_block h1]
            have := (ha2 m _ (List.getElem?_eq_getElem hm)).1
            rw [this]; simp [getElem!_pos, hm]
          have hji : ((j.toNat : Nat) : Int) = j := Int.toNat_of_nonneg (by omega)
          have hii : ((i.toNat : Nat) : Int) = i := Int.toNat_of_nonneg hi0
          have hK := AnyE.slices_Delete Tryz.delL Value.pointer (fun _ => rfl) none (fun w => by kernel_rfl) (Option.get (Tryz.prog.info? 135) i135s) (Option.some_get i135s).symm i135z p.b (p.sh + o) k i.toNat j.toNat ys.toArray w hH (by show ys.length ≤ k; omega) (by omega) (by omega) (by show j.toNat ≤ ys.length; omega)
          rw [hii, hji] at hK
          have has : ys.toArray.size = len := ha1
          rw [has] at hK
          rw [enters_by Tryz.func73 (by kernel_rfl) rfl]
          show Calls _ _ _ _ _
          refine hK.mono ?_
          rintro e w' ⟨rfl, q, rfl⟩
          refine ⟨_, rfl, σ, ?_, good_row H Value.pointer _ hp hnew hwr q⟩
          simp only [vrel]
          exact ⟨_, _, rfl, by omega, ⟨p, hp, fun _ => rfl, hbd⟩, hcap, hroom⟩
        · cases h
      · cases h
    · cases h
  · cases h
end
end Go.Am
